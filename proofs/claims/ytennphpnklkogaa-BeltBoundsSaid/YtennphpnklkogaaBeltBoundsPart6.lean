/- BeltBounds: for every input the law answers true and its arguments read as before; no condition. Part 6 of 6: W56, BoundsEnd. -/
import Derived.Test.YtennphpnklkogaaBeltBoundsPart5
set_option linter.unusedSimpArgs false
set_option linter.unusedVariables false
/- The law BeltBounds: the walk. -/
namespace Go.Sx
open Go.Proofs
set_option maxRecDepth 100000
def vD (b : BeltD) (left : Nat → Int) (z : Int) : Int := if keptE b left = 0 then (if inD z 0 (b.nt - 1) = true then 0 else 2) else keptE b left
def wD (b : BeltD) (left : Nat → Int) (z : Int) (l : List Int) : Int := if vD b left z = 0 then chosenE l else vD b left z
theorem vD_zero {b : BeltD} {left : Nat → Int} {z : Int} (h : vD b left z = 0) : keptE b left = 0 ∧ inD z 0 (b.nt - 1) = true := by
  unfold vD at h
  by_cases hk : keptE b left = 0
  · rw [if_pos hk] at h
    refine ⟨hk, ?_⟩
    by_cases hi : inD z 0 (b.nt - 1) = true
    · exact hi
    · rw [if_neg hi] at h; omega
  · rw [if_neg hk] at h; exact absurd h hk
theorem wD_zero {b : BeltD} {left : Nat → Int} {z : Int} {l : List Int} (h : wD b left z l = 0) : vD b left z = 0 ∧ chosenE l = 0 := by
  unfold wD at h
  by_cases hk : vD b left z = 0
  · rw [if_pos hk] at h; exact ⟨hk, h⟩
  · rw [if_neg hk] at h; exact absurd h hk
theorem bdE_zero {b : BeltD} {z : Int} {l : List Int} (h : bdE b z l = 0) : atD b z = 0 ∧ chosenE l = 0 := by
  unfold bdE at h
  by_cases hk : atD b z = 0
  · rw [if_pos hk] at h; exact ⟨hk, h⟩
  · rw [if_neg hk] at h; exact absurd h hk
theorem upE_w (b : BeltD) (left : Nat → Int) (z : Int) (l : List Int) : upE b left z l = if wD b left z l = 0 then (if upN b left z.toNat (bitsOf l) < 1 then 8 else 0) else wD b left z l := by
  unfold upE wD vD
  by_cases hk : keptE b left = 0
  · rw [if_pos hk, if_pos hk]
    by_cases hi : inD z 0 (b.nt - 1) = true
    · rw [if_pos hi, if_pos hi, if_pos rfl]
    · rw [if_neg hi, if_neg hi]; simp
  · rw [if_neg hk, if_neg hk]; simp [hk]
theorem HeldR.un {b : BeltD} {left : Nat → Int} {v : Value} {h' : Heap} {Γ' : List HP} (r : HeldR b left v h' Γ') : Γ' = [] ∧ ∃ (tt : Int) (sv : Value) (e : Int), v = .tuple #[.int .i64 tt, sv, .int .i64 e] ∧
    ((keptE b left = 0 ∧ firstB b (keptD left) (allH b) = b.nt ∧ tt = 0 ∧ sv = nilS ∧ e = 1) ∨ (keptE b left = 0 ∧ firstB b (keptD left) (allH b) < b.nt ∧ tt = firstB b (keptD left) (allH b) ∧ e = 0 ∧ IsInts h' sv (setI (firstS b (keptD left) (allH b)))) ∨ (keptE b left ≠ 0 ∧ tt = 0 ∧ sv = nilS ∧ e = keptE b left)) := by
  obtain ⟨e, ⟨h1, h2, rfl⟩ | ⟨h1, h2, sv, rfl, h3⟩ | ⟨h1, rfl⟩⟩ := r
  · exact ⟨e, _, _, _, rfl, .inl ⟨h1, h2, rfl, rfl, rfl⟩⟩
  · exact ⟨e, _, _, _, rfl, .inr (.inl ⟨h1, h2, rfl, rfl, h3⟩)⟩
  · exact ⟨e, _, _, _, rfl, .inr (.inr ⟨h1, rfl, rfl, rfl⟩)⟩
theorem FewR.un {b : BeltD} {left : Nat → Int} {v : Value} {h' : Heap} {Γ' : List HP} (r : FewR b left v h' Γ') : Γ' = [] ∧ ∃ (sv : Value) (e : Int), v = .tuple #[sv, .int .i64 e] ∧
    ((keptE b left = 0 ∧ (fewB b left).2 = false ∧ sv = nilS ∧ e = 1) ∨ (keptE b left = 0 ∧ (fewB b left).2 = true ∧ e = 0 ∧ IsInts h' sv (natsI (fewB b left).1)) ∨ (keptE b left ≠ 0 ∧ sv = nilS ∧ e = keptE b left)) := by
  obtain ⟨e, ⟨h1, h2, rfl⟩ | ⟨h1, h2, sv, rfl, h3⟩ | ⟨h1, rfl⟩⟩ := r
  · exact ⟨e, _, _, rfl, .inl ⟨h1, h2, rfl, rfl⟩⟩
  · exact ⟨e, _, _, rfl, .inr (.inl ⟨h1, h2, rfl, h3⟩)⟩
  · exact ⟨e, _, _, rfl, .inr (.inr ⟨h1, rfl, rfl⟩)⟩
theorem CutR.un {b : BeltD} {tray : Int} {v : Value} {h' : Heap} {Γ' : List HP} (r : CutR b tray v h' Γ') : Γ' = [] ∧ ∃ cv, v = .tuple #[cv, .int .i64 (atD b tray)] ∧ (atD b tray = 0 → IsInts h' cv (setI (heldB b wholeD tray.toNat (allH b)))) ∧ (atD b tray ≠ 0 → cv = nilS) := by
  obtain ⟨e, ⟨hz, lv, rfl, hl⟩ | ⟨hz, rfl⟩⟩ := r
  · exact ⟨e, lv, by rw [hz], fun _ => hl, fun h => absurd hz h⟩
  · exact ⟨e, _, rfl, fun h => absurd h hz, fun _ => rfl⟩
theorem few_same {b : BeltD} {left : Nat → Int} {sv v : Value} {e : Int} {h h' : Heap} {Γ' : List HP} (hK : keptE b left = 0) (r : (keptE b left = 0 ∧ (fewB b left).2 = false ∧ sv = nilS ∧ e = 1) ∨ (keptE b left = 0 ∧ (fewB b left).2 = true ∧ e = 0 ∧ IsInts h sv (natsI (fewB b left).1)) ∨ (keptE b left ≠ 0 ∧ sv = nilS ∧ e = keptE b left))
    (x : FewX b left v h' Γ') : Γ' = [] ∧ ∃ sv2 L, v = .tuple #[sv2, .int .i64 e] ∧ IsInts h sv L ∧ IsInts h' sv2 L := by
  obtain ⟨e0, ⟨hf, rfl⟩ | ⟨hf, sv2, rfl, hi⟩⟩ := x
  · refine ⟨e0, nilS, [], ?_⟩
    rcases r with ⟨_, _, rfl, rfl⟩ | ⟨_, h2, _⟩ | ⟨h1, _⟩
    · exact ⟨rfl, SlH.nil _ _, SlH.nil _ _⟩
    · rw [hf] at h2; cases h2
    · exact absurd hK h1
  · refine ⟨e0, sv2, natsI (fewB b left).1, ?_⟩
    rcases r with ⟨_, h2, _⟩ | ⟨_, _, rfl, h3⟩ | ⟨h1, _⟩
    · rw [hf] at h2; cases h2
    · exact ⟨rfl, h3, hi⟩
    · exact absurd hK h1
theorem setI_len (s : Nat) : (setI s).length ≤ 1000 := by unfold setI; rw [List.length_map]; have := setL_len s; omega
attribute [local irreducible] Code.wpIn wpListIn Exit.then Exit.inBlock BQ Again Hd St En OpT box blk RQ BQ0 fmap own Desk Chute
set_option maxHeartbeats 8000000 in
theorem boundslaw_ct (h00 : Heap) (v sv : Value) (b : BeltD) (left : Nat → Int) (z : Int) (l : List Int) (hb0 : IsBelt h00 v b) (hs00 : IsInts h00 sv l) : CT Try.prog 8 [v, .agg (trayL left).toArray, .int .i64 z, sv] h00 [] (DetW (.bool true) []) := by
  obtain ⟨tv, hv, rfl, ⟨_, tad, tcp, rfl, _, _, _⟩, rv0, ⟨_, had, hcp, rfl, _, _, _⟩, _⟩ := id hb0
  obtain ⟨_, sad, scp, rfl, _, hscp, _⟩ := id hs00
  refine ct_intro Try.func8 rfl rfl rfl rfl fun Φ => ?_
  refine en_seq <| en_region <| en_box rfl rfl rfl fun b4 => en_box rfl rfl rfl fun b5 => en_det (opT_assign rfl) rfl <| en_nil <| en_then <| ?_
  refine en_fzb fun h0 s00 hbx5 => ?_
  refine en_fzb fun h s0' hbx => ?_
  have s0 := s00.trans s0'
  have kb := cellsH_box hbx
  have kb5 := (cellsH_box hbx5).mono s0'
  have k0 : cellH h b4 0 = some (.slice tad b.nt tcp) := cellH_box hbx rfl
  have hb := hb0.mono s0
  have hs := hs00.mono s0
  clear hb0 hs00
  have cB := big_ct h _ b hb
  skip
  cases hbig : bigD b with
  | true =>
    rw [hbig] at cB
    refine en_seq <| en_seq <| en_region <| en_det (opT_loadA_h rfl kb rfl) rfl <| en_calld (cB) rfl rfl rfl rfl <| en_det (opT_move rfl) rfl <| en_g_no rfl rfl rfl <| en_g_no rfl rfl rfl <| en_g_no rfl rfl rfl <| ?_
    first | refine en_det (opT_pick_t rfl rfl) rfl ?_ | refine en_det (opT_pick_f rfl rfl) rfl ?_
    refine en_nil <| en_then <| en_cond_t rfl <| en_seq <| en_region <| en_calld (awake_ct h) rfl rfl rfl rfl <| en_det (opT_assign rfl) rfl <| en_nil <| en_then <| en_ret <| en_then_ret <| ?_
    refine en_return (rs := [.tmp 8]) rfl (.cons (.tmp rfl) .nil) s0 (Γ1 := []) ⟨rfl, rfl⟩
  | false =>
    rw [hbig] at cB
    by_cases hn8 : 7 < l.length
    · skip
      refine en_seq <| en_seq <| en_region <| en_det (opT_loadA_h rfl kb rfl) rfl <| en_calld (cB) rfl rfl rfl rfl <| en_det (opT_move rfl) rfl <| en_g_yes rfl rfl <| en_det (opT_move rfl) rfl <| en_g_yes rfl rfl <| en_det (opT_len rfl) rfl <| en_g_yes rfl rfl <| en_det (opT_gtr_t rfl rfl (by omega)) rfl <| ?_
      first | refine en_det (opT_pick_t rfl rfl) rfl ?_ | refine en_det (opT_pick_f rfl rfl) rfl ?_
      refine en_nil <| en_then <| en_cond_t rfl <| en_seq <| en_region <| en_calld (awake_ct h) rfl rfl rfl rfl <| en_det (opT_assign rfl) rfl <| en_nil <| en_then <| en_ret <| en_then_ret <| ?_
      refine en_return (rs := [.tmp 8]) rfl (.cons (.tmp rfl) .nil) s0 (Γ1 := []) ⟨rfl, rfl⟩
    have htm := bigD_no hbig
    have hsm := htm.small
    have hnt := htm.nt
    have hnh := htm.nh
    refine en_seq <| en_seq <| en_region <| en_det (opT_loadA_h rfl kb rfl) rfl <| en_calld (cB) rfl rfl rfl rfl <| en_det (opT_move rfl) rfl <| en_g_yes rfl rfl <| en_det (opT_move rfl) rfl <| en_g_yes rfl rfl <| en_det (opT_len rfl) rfl <| en_g_yes rfl rfl <| en_det (opT_gtr_f rfl rfl (by omega)) rfl <| ?_
    first | refine en_det (opT_pick_t rfl rfl) rfl ?_ | refine en_det (opT_pick_f rfl rfl) rfl ?_
    refine en_nil <| en_then <| en_cond_f rfl <| en_skip <| en_then <| ?_
    refine en_meet (ι := Nat × Nat × Nat × Value × Value × Value × Value × Value × Heap) (fun x => h.sub x.2.2.2.2.2.2.2.2 ∧ IsBelt x.2.2.2.2.2.2.2.2 (.agg #[x.2.2.2.1, x.2.2.2.2.1]) b ∧ IsBelt x.2.2.2.2.2.2.2.2 (.agg #[x.2.2.2.2.2.1, x.2.2.2.2.2.2.1]) b ∧ IsInts x.2.2.2.2.2.2.2.2 x.2.2.2.2.2.2.2.1 l) (fun x => [(2, .int .i64 z), (3, .slice sad l.length scp), (4, pt b4), (5, pt b5), (9, pt x.1), (10, x.2.2.2.2.2.2.2.1), (11, pt x.2.1), (12, pt x.2.2.1)]) (fun x => x.2.2.2.2.2.2.2.2) (fun x => [box x.1 26 [x.2.2.2.1, x.2.2.2.2.1], box x.2.1 59 [x.2.2.2.2.2.1, x.2.2.2.2.2.2.1], box x.2.2.1 70 (trayL left)]) ?_ (fun x hx => ?_)
    · skip
      skip
      refine en_draw1 [0, 2, 4, 6, 1, 3, 5, 7, 8, 9, 10, 11, 12, 13] (by kernel_rfl) (by decide +kernel) (by decide +kernel) (by decide) ?_
      refine dp_q rfl (opT_loadA_h rfl kb rfl) rfl rfl rfl <| dp_p rfl (fun _ _ => opT_move rfl) rfl rfl rfl <| dp_q rfl (opT_loadA_h rfl kb rfl) rfl rfl rfl <| dp_q rfl (opT_loadA_h rfl kb5 (row_length _ _)) rfl rfl rfl <| ?_
      refine dp_alts [1, 7, 8, 9] rfl (by simp) rfl rfl ⟨alt_op rfl (opT_call rfl rfl rfl (cloneF_ct h _ b (hb.mono (.refl _)) hsm)) rfl rfl fun vo hw1 _ sw1 hC => ?_, alt_op rfl opT_alloc rfl rfl fun _ _ _ _ hC => ?_, alt_op rfl opT_alloc rfl rfl fun _ _ _ _ hC => ?_, alt_op rfl opT_alloc rfl rfl fun _ _ _ _ hC => ?_, trivial⟩
      · skip
        obtain ⟨_, ⟨hO, rfl⟩, rfl⟩ := hC
        refine dp_norm1 ?_
        refine dp_alts [3, 7, 8, 9] rfl (by simp) rfl rfl ⟨alt_op rfl (opT_call rfl rfl rfl (copyM_ct hw1 _ l (hs.mono sw1) (by omega))) rfl rfl fun vm hw2 _ sw2 hC => ?_, alt_op rfl opT_alloc rfl rfl fun _ _ _ _ hC => ?_, alt_op rfl opT_alloc rfl rfl fun _ _ _ _ hC => ?_, alt_op rfl opT_alloc rfl rfl fun _ _ _ _ hC => ?_, trivial⟩
        · skip
          obtain ⟨_, ⟨hM, rfl⟩, rfl⟩ := hC
          refine dp_norm1 ?_
          refine dp_alts [5, 7, 8, 9] rfl (by simp) rfl rfl ⟨alt_op rfl (opT_call rfl rfl rfl (its_ct hw2 _ b (hb.mono (sw1.trans sw2)) hsm)) rfl rfl fun vx hw3 _ sw3 hC => ?_, alt_op rfl opT_alloc rfl rfl fun _ _ _ _ hC => ?_, alt_op rfl opT_alloc rfl rfl fun _ _ _ _ hC => ?_, alt_op rfl opT_alloc rfl rfl fun _ _ _ _ hC => ?_, trivial⟩
          · skip
            obtain ⟨_, ⟨hX, rfl⟩, rfl⟩ := hC
            refine dp_norm1 ?_
            refine dp_alts [7, 8, 9] rfl (by simp) rfl rfl ⟨alt_op rfl opT_alloc rfl rfl fun _ _ _ _ hC => ?_, alt_op rfl opT_alloc rfl rfl fun _ _ _ _ hC => ?_, alt_op rfl opT_alloc rfl rfl fun _ _ _ _ hC => ?_, trivial⟩
            · skip
              obtain ⟨b9, rfl, e2, rfl⟩ := hC
              replace e2 := e2.symm; subst e2
              refine dp_alts [8, 9] rfl (by simp) rfl rfl ⟨alt_op rfl opT_alloc rfl rfl fun _ _ _ _ hC => ?_, alt_op rfl opT_alloc rfl rfl fun _ _ _ _ hC => ?_, trivial⟩
              · skip
                obtain ⟨b11, rfl, e2, rfl⟩ := hC
                replace e2 := e2.symm; subst e2
                refine dp_e1 rfl opT_alloc rfl rfl rfl rfl fun _ _ _ _ hC => ?_
                obtain ⟨b12, rfl, e2, rfl⟩ := hC
                replace e2 := e2.symm; subst e2
                have hO := hO.mono (sw2.trans sw3)
                have hM := hM.mono sw3
                obtain ⟨o1, o2, rfl, _, _⟩ := id hO
                obtain ⟨x1, x2, rfl, _, _⟩ := id hX
                refine dp_ed1 rfl (opT_storeW rfl rfl rfl rfl (belt_one hO)) rfl rfl rfl rfl <| dp_p rfl (fun _ _ => opT_assign rfl) rfl rfl rfl <| dp_ed1 rfl (opT_storeW rfl rfl rfl rfl (belt_one hX)) rfl rfl rfl rfl <| dp_ed1 rfl (opT_storeW rfl rfl rfl rfl (one_trayL left)) rfl rfl rfl rfl <| dp_done1 ?_
                refine en_then <| ?_
                exact en_met (b9, b11, b12, o1, o2, x1, x2, vm, hw3) ⟨(sw1.trans (sw2.trans sw3)), hO, hX, hM⟩ ⟨rfl, rfl, rfl, rfl, rfl, rfl, rfl, rfl, trivial⟩ (.refl _) inferInstance
              · skip
                obtain ⟨b12, rfl, e2, rfl⟩ := hC
                replace e2 := e2.symm; subst e2
                refine dp_e1 rfl opT_alloc rfl rfl rfl rfl fun _ _ _ _ hC => ?_
                obtain ⟨b11, rfl, e2, rfl⟩ := hC
                replace e2 := e2.symm; subst e2
                have hO := hO.mono (sw2.trans sw3)
                have hM := hM.mono sw3
                obtain ⟨o1, o2, rfl, _, _⟩ := id hO
                obtain ⟨x1, x2, rfl, _, _⟩ := id hX
                refine dp_ed1 rfl (opT_storeW rfl rfl rfl rfl (belt_one hO)) rfl rfl rfl rfl <| dp_p rfl (fun _ _ => opT_assign rfl) rfl rfl rfl <| dp_ed1 rfl (opT_storeW rfl rfl rfl rfl (belt_one hX)) rfl rfl rfl rfl <| dp_ed1 rfl (opT_storeW rfl rfl rfl rfl (one_trayL left)) rfl rfl rfl rfl <| dp_done1 ?_
                refine en_then <| ?_
                exact en_met (b9, b11, b12, o1, o2, x1, x2, vm, hw3) ⟨(sw1.trans (sw2.trans sw3)), hO, hX, hM⟩ ⟨rfl, rfl, rfl, rfl, rfl, rfl, rfl, rfl, trivial⟩ (.refl _) inferInstance
            · skip
              obtain ⟨b11, rfl, e2, rfl⟩ := hC
              replace e2 := e2.symm; subst e2
              refine dp_alts [7, 9] rfl (by simp) rfl rfl ⟨alt_op rfl opT_alloc rfl rfl fun _ _ _ _ hC => ?_, alt_op rfl opT_alloc rfl rfl fun _ _ _ _ hC => ?_, trivial⟩
              · skip
                obtain ⟨b9, rfl, e2, rfl⟩ := hC
                replace e2 := e2.symm; subst e2
                refine dp_e1 rfl opT_alloc rfl rfl rfl rfl fun _ _ _ _ hC => ?_
                obtain ⟨b12, rfl, e2, rfl⟩ := hC
                replace e2 := e2.symm; subst e2
                have hO := hO.mono (sw2.trans sw3)
                have hM := hM.mono sw3
                obtain ⟨o1, o2, rfl, _, _⟩ := id hO
                obtain ⟨x1, x2, rfl, _, _⟩ := id hX
                refine dp_ed1 rfl (opT_storeW rfl rfl rfl rfl (belt_one hO)) rfl rfl rfl rfl <| dp_p rfl (fun _ _ => opT_assign rfl) rfl rfl rfl <| dp_ed1 rfl (opT_storeW rfl rfl rfl rfl (belt_one hX)) rfl rfl rfl rfl <| dp_ed1 rfl (opT_storeW rfl rfl rfl rfl (one_trayL left)) rfl rfl rfl rfl <| dp_done1 ?_
                refine en_then <| ?_
                exact en_met (b9, b11, b12, o1, o2, x1, x2, vm, hw3) ⟨(sw1.trans (sw2.trans sw3)), hO, hX, hM⟩ ⟨rfl, rfl, rfl, rfl, rfl, rfl, rfl, rfl, trivial⟩ (.refl _) inferInstance
              · skip
                obtain ⟨b12, rfl, e2, rfl⟩ := hC
                replace e2 := e2.symm; subst e2
                refine dp_e1 rfl opT_alloc rfl rfl rfl rfl fun _ _ _ _ hC => ?_
                obtain ⟨b9, rfl, e2, rfl⟩ := hC
                replace e2 := e2.symm; subst e2
                have hO := hO.mono (sw2.trans sw3)
                have hM := hM.mono sw3
                obtain ⟨o1, o2, rfl, _, _⟩ := id hO
                obtain ⟨x1, x2, rfl, _, _⟩ := id hX
                refine dp_ed1 rfl (opT_storeW rfl rfl rfl rfl (belt_one hO)) rfl rfl rfl rfl <| dp_p rfl (fun _ _ => opT_assign rfl) rfl rfl rfl <| dp_ed1 rfl (opT_storeW rfl rfl rfl rfl (belt_one hX)) rfl rfl rfl rfl <| dp_ed1 rfl (opT_storeW rfl rfl rfl rfl (one_trayL left)) rfl rfl rfl rfl <| dp_done1 ?_
                refine en_then <| ?_
                exact en_met (b9, b11, b12, o1, o2, x1, x2, vm, hw3) ⟨(sw1.trans (sw2.trans sw3)), hO, hX, hM⟩ ⟨rfl, rfl, rfl, rfl, rfl, rfl, rfl, rfl, trivial⟩ (.refl _) inferInstance
            · skip
              obtain ⟨b12, rfl, e2, rfl⟩ := hC
              replace e2 := e2.symm; subst e2
              refine dp_alts [7, 8] rfl (by simp) rfl rfl ⟨alt_op rfl opT_alloc rfl rfl fun _ _ _ _ hC => ?_, alt_op rfl opT_alloc rfl rfl fun _ _ _ _ hC => ?_, trivial⟩
              · skip
                obtain ⟨b9, rfl, e2, rfl⟩ := hC
                replace e2 := e2.symm; subst e2
                refine dp_e1 rfl opT_alloc rfl rfl rfl rfl fun _ _ _ _ hC => ?_
                obtain ⟨b11, rfl, e2, rfl⟩ := hC
                replace e2 := e2.symm; subst e2
                have hO := hO.mono (sw2.trans sw3)
                have hM := hM.mono sw3
                obtain ⟨o1, o2, rfl, _, _⟩ := id hO
                obtain ⟨x1, x2, rfl, _, _⟩ := id hX
                refine dp_ed1 rfl (opT_storeW rfl rfl rfl rfl (belt_one hO)) rfl rfl rfl rfl <| dp_p rfl (fun _ _ => opT_assign rfl) rfl rfl rfl <| dp_ed1 rfl (opT_storeW rfl rfl rfl rfl (belt_one hX)) rfl rfl rfl rfl <| dp_ed1 rfl (opT_storeW rfl rfl rfl rfl (one_trayL left)) rfl rfl rfl rfl <| dp_done1 ?_
                refine en_then <| ?_
                exact en_met (b9, b11, b12, o1, o2, x1, x2, vm, hw3) ⟨(sw1.trans (sw2.trans sw3)), hO, hX, hM⟩ ⟨rfl, rfl, rfl, rfl, rfl, rfl, rfl, rfl, trivial⟩ (.refl _) inferInstance
              · skip
                obtain ⟨b11, rfl, e2, rfl⟩ := hC
                replace e2 := e2.symm; subst e2
                refine dp_e1 rfl opT_alloc rfl rfl rfl rfl fun _ _ _ _ hC => ?_
                obtain ⟨b9, rfl, e2, rfl⟩ := hC
                replace e2 := e2.symm; subst e2
                have hO := hO.mono (sw2.trans sw3)
                have hM := hM.mono sw3
                obtain ⟨o1, o2, rfl, _, _⟩ := id hO
                obtain ⟨x1, x2, rfl, _, _⟩ := id hX
                refine dp_ed1 rfl (opT_storeW rfl rfl rfl rfl (belt_one hO)) rfl rfl rfl rfl <| dp_p rfl (fun _ _ => opT_assign rfl) rfl rfl rfl <| dp_ed1 rfl (opT_storeW rfl rfl rfl rfl (belt_one hX)) rfl rfl rfl rfl <| dp_ed1 rfl (opT_storeW rfl rfl rfl rfl (one_trayL left)) rfl rfl rfl rfl <| dp_done1 ?_
                refine en_then <| ?_
                exact en_met (b9, b11, b12, o1, o2, x1, x2, vm, hw3) ⟨(sw1.trans (sw2.trans sw3)), hO, hX, hM⟩ ⟨rfl, rfl, rfl, rfl, rfl, rfl, rfl, rfl, trivial⟩ (.refl _) inferInstance
          · skip
            obtain ⟨b9, rfl, e2, rfl⟩ := hC
            replace e2 := e2.symm; subst e2
            refine dp_alts [5, 8, 9] rfl (by simp) rfl rfl ⟨alt_op rfl (opT_call rfl rfl rfl (its_ct hw2 _ b (hb.mono (sw1.trans sw2)) hsm)) rfl rfl fun vx hw14 _ sw14 hC => ?_, alt_op rfl opT_alloc rfl rfl fun _ _ _ _ hC => ?_, alt_op rfl opT_alloc rfl rfl fun _ _ _ _ hC => ?_, trivial⟩
            · skip
              obtain ⟨_, ⟨hX, rfl⟩, rfl⟩ := hC
              refine dp_norm1 ?_
              refine dp_alts [8, 9] rfl (by simp) rfl rfl ⟨alt_op rfl opT_alloc rfl rfl fun _ _ _ _ hC => ?_, alt_op rfl opT_alloc rfl rfl fun _ _ _ _ hC => ?_, trivial⟩
              · skip
                obtain ⟨b11, rfl, e2, rfl⟩ := hC
                replace e2 := e2.symm; subst e2
                refine dp_e1 rfl opT_alloc rfl rfl rfl rfl fun _ _ _ _ hC => ?_
                obtain ⟨b12, rfl, e2, rfl⟩ := hC
                replace e2 := e2.symm; subst e2
                have hO := hO.mono (sw2.trans sw14)
                have hM := hM.mono sw14
                obtain ⟨o1, o2, rfl, _, _⟩ := id hO
                obtain ⟨x1, x2, rfl, _, _⟩ := id hX
                refine dp_ed1 rfl (opT_storeW rfl rfl rfl rfl (belt_one hO)) rfl rfl rfl rfl <| dp_p rfl (fun _ _ => opT_assign rfl) rfl rfl rfl <| dp_ed1 rfl (opT_storeW rfl rfl rfl rfl (belt_one hX)) rfl rfl rfl rfl <| dp_ed1 rfl (opT_storeW rfl rfl rfl rfl (one_trayL left)) rfl rfl rfl rfl <| dp_done1 ?_
                refine en_then <| ?_
                exact en_met (b9, b11, b12, o1, o2, x1, x2, vm, hw14) ⟨(sw1.trans (sw2.trans sw14)), hO, hX, hM⟩ ⟨rfl, rfl, rfl, rfl, rfl, rfl, rfl, rfl, trivial⟩ (.refl _) inferInstance
              · skip
                obtain ⟨b12, rfl, e2, rfl⟩ := hC
                replace e2 := e2.symm; subst e2
                refine dp_e1 rfl opT_alloc rfl rfl rfl rfl fun _ _ _ _ hC => ?_
                obtain ⟨b11, rfl, e2, rfl⟩ := hC
                replace e2 := e2.symm; subst e2
                have hO := hO.mono (sw2.trans sw14)
                have hM := hM.mono sw14
                obtain ⟨o1, o2, rfl, _, _⟩ := id hO
                obtain ⟨x1, x2, rfl, _, _⟩ := id hX
                refine dp_ed1 rfl (opT_storeW rfl rfl rfl rfl (belt_one hO)) rfl rfl rfl rfl <| dp_p rfl (fun _ _ => opT_assign rfl) rfl rfl rfl <| dp_ed1 rfl (opT_storeW rfl rfl rfl rfl (belt_one hX)) rfl rfl rfl rfl <| dp_ed1 rfl (opT_storeW rfl rfl rfl rfl (one_trayL left)) rfl rfl rfl rfl <| dp_done1 ?_
                refine en_then <| ?_
                exact en_met (b9, b11, b12, o1, o2, x1, x2, vm, hw14) ⟨(sw1.trans (sw2.trans sw14)), hO, hX, hM⟩ ⟨rfl, rfl, rfl, rfl, rfl, rfl, rfl, rfl, trivial⟩ (.refl _) inferInstance
            · skip
              obtain ⟨b11, rfl, e2, rfl⟩ := hC
              replace e2 := e2.symm; subst e2
              refine dp_alts [5, 9] rfl (by simp) rfl rfl ⟨alt_op rfl (opT_call rfl rfl rfl (its_ct hw2 _ b (hb.mono (sw1.trans sw2)) hsm)) rfl rfl fun vx hw18 _ sw18 hC => ?_, alt_op rfl opT_alloc rfl rfl fun _ _ _ _ hC => ?_, trivial⟩
              · skip
                obtain ⟨_, ⟨hX, rfl⟩, rfl⟩ := hC
                refine dp_norm1 ?_
                refine dp_e1 rfl opT_alloc rfl rfl rfl rfl fun _ _ _ _ hC => ?_
                obtain ⟨b12, rfl, e2, rfl⟩ := hC
                replace e2 := e2.symm; subst e2
                have hO := hO.mono (sw2.trans sw18)
                have hM := hM.mono sw18
                obtain ⟨o1, o2, rfl, _, _⟩ := id hO
                obtain ⟨x1, x2, rfl, _, _⟩ := id hX
                refine dp_ed1 rfl (opT_storeW rfl rfl rfl rfl (belt_one hO)) rfl rfl rfl rfl <| dp_p rfl (fun _ _ => opT_assign rfl) rfl rfl rfl <| dp_ed1 rfl (opT_storeW rfl rfl rfl rfl (belt_one hX)) rfl rfl rfl rfl <| dp_ed1 rfl (opT_storeW rfl rfl rfl rfl (one_trayL left)) rfl rfl rfl rfl <| dp_done1 ?_
                refine en_then <| ?_
                exact en_met (b9, b11, b12, o1, o2, x1, x2, vm, hw18) ⟨(sw1.trans (sw2.trans sw18)), hO, hX, hM⟩ ⟨rfl, rfl, rfl, rfl, rfl, rfl, rfl, rfl, trivial⟩ (.refl _) inferInstance
              · skip
                obtain ⟨b12, rfl, e2, rfl⟩ := hC
                replace e2 := e2.symm; subst e2
                refine dp_e1 rfl (opT_call rfl rfl rfl (its_ct hw2 _ b (hb.mono (sw1.trans sw2)) hsm)) rfl rfl rfl rfl fun vx hw20 _ sw20 hC => ?_
                obtain ⟨_, ⟨hX, rfl⟩, rfl⟩ := hC
                refine dp_norm1 ?_
                have hO := hO.mono (sw2.trans sw20)
                have hM := hM.mono sw20
                obtain ⟨o1, o2, rfl, _, _⟩ := id hO
                obtain ⟨x1, x2, rfl, _, _⟩ := id hX
                refine dp_ed1 rfl (opT_storeW rfl rfl rfl rfl (belt_one hO)) rfl rfl rfl rfl <| dp_p rfl (fun _ _ => opT_assign rfl) rfl rfl rfl <| dp_ed1 rfl (opT_storeW rfl rfl rfl rfl (belt_one hX)) rfl rfl rfl rfl <| dp_ed1 rfl (opT_storeW rfl rfl rfl rfl (one_trayL left)) rfl rfl rfl rfl <| dp_done1 ?_
                refine en_then <| ?_
                exact en_met (b9, b11, b12, o1, o2, x1, x2, vm, hw20) ⟨(sw1.trans (sw2.trans sw20)), hO, hX, hM⟩ ⟨rfl, rfl, rfl, rfl, rfl, rfl, rfl, rfl, trivial⟩ (.refl _) inferInstance
            · skip
              obtain ⟨b12, rfl, e2, rfl⟩ := hC
              replace e2 := e2.symm; subst e2
              refine dp_alts [5, 8] rfl (by simp) rfl rfl ⟨alt_op rfl (opT_call rfl rfl rfl (its_ct hw2 _ b (hb.mono (sw1.trans sw2)) hsm)) rfl rfl fun vx hw21 _ sw21 hC => ?_, alt_op rfl opT_alloc rfl rfl fun _ _ _ _ hC => ?_, trivial⟩
              · skip
                obtain ⟨_, ⟨hX, rfl⟩, rfl⟩ := hC
                refine dp_norm1 ?_
                refine dp_e1 rfl opT_alloc rfl rfl rfl rfl fun _ _ _ _ hC => ?_
                obtain ⟨b11, rfl, e2, rfl⟩ := hC
                replace e2 := e2.symm; subst e2
                have hO := hO.mono (sw2.trans sw21)
                have hM := hM.mono sw21
                obtain ⟨o1, o2, rfl, _, _⟩ := id hO
                obtain ⟨x1, x2, rfl, _, _⟩ := id hX
                refine dp_ed1 rfl (opT_storeW rfl rfl rfl rfl (belt_one hO)) rfl rfl rfl rfl <| dp_p rfl (fun _ _ => opT_assign rfl) rfl rfl rfl <| dp_ed1 rfl (opT_storeW rfl rfl rfl rfl (belt_one hX)) rfl rfl rfl rfl <| dp_ed1 rfl (opT_storeW rfl rfl rfl rfl (one_trayL left)) rfl rfl rfl rfl <| dp_done1 ?_
                refine en_then <| ?_
                exact en_met (b9, b11, b12, o1, o2, x1, x2, vm, hw21) ⟨(sw1.trans (sw2.trans sw21)), hO, hX, hM⟩ ⟨rfl, rfl, rfl, rfl, rfl, rfl, rfl, rfl, trivial⟩ (.refl _) inferInstance
              · skip
                obtain ⟨b11, rfl, e2, rfl⟩ := hC
                replace e2 := e2.symm; subst e2
                refine dp_e1 rfl (opT_call rfl rfl rfl (its_ct hw2 _ b (hb.mono (sw1.trans sw2)) hsm)) rfl rfl rfl rfl fun vx hw23 _ sw23 hC => ?_
                obtain ⟨_, ⟨hX, rfl⟩, rfl⟩ := hC
                refine dp_norm1 ?_
                have hO := hO.mono (sw2.trans sw23)
                have hM := hM.mono sw23
                obtain ⟨o1, o2, rfl, _, _⟩ := id hO
                obtain ⟨x1, x2, rfl, _, _⟩ := id hX
                refine dp_ed1 rfl (opT_storeW rfl rfl rfl rfl (belt_one hO)) rfl rfl rfl rfl <| dp_p rfl (fun _ _ => opT_assign rfl) rfl rfl rfl <| dp_ed1 rfl (opT_storeW rfl rfl rfl rfl (belt_one hX)) rfl rfl rfl rfl <| dp_ed1 rfl (opT_storeW rfl rfl rfl rfl (one_trayL left)) rfl rfl rfl rfl <| dp_done1 ?_
                refine en_then <| ?_
                exact en_met (b9, b11, b12, o1, o2, x1, x2, vm, hw23) ⟨(sw1.trans (sw2.trans sw23)), hO, hX, hM⟩ ⟨rfl, rfl, rfl, rfl, rfl, rfl, rfl, rfl, trivial⟩ (.refl _) inferInstance
          · skip
            obtain ⟨b11, rfl, e2, rfl⟩ := hC
            replace e2 := e2.symm; subst e2
            refine dp_alts [5, 7, 9] rfl (by simp) rfl rfl ⟨alt_op rfl (opT_call rfl rfl rfl (its_ct hw2 _ b (hb.mono (sw1.trans sw2)) hsm)) rfl rfl fun vx hw24 _ sw24 hC => ?_, alt_op rfl opT_alloc rfl rfl fun _ _ _ _ hC => ?_, alt_op rfl opT_alloc rfl rfl fun _ _ _ _ hC => ?_, trivial⟩
            · skip
              obtain ⟨_, ⟨hX, rfl⟩, rfl⟩ := hC
              refine dp_norm1 ?_
              refine dp_alts [7, 9] rfl (by simp) rfl rfl ⟨alt_op rfl opT_alloc rfl rfl fun _ _ _ _ hC => ?_, alt_op rfl opT_alloc rfl rfl fun _ _ _ _ hC => ?_, trivial⟩
              · skip
                obtain ⟨b9, rfl, e2, rfl⟩ := hC
                replace e2 := e2.symm; subst e2
                refine dp_e1 rfl opT_alloc rfl rfl rfl rfl fun _ _ _ _ hC => ?_
                obtain ⟨b12, rfl, e2, rfl⟩ := hC
                replace e2 := e2.symm; subst e2
                have hO := hO.mono (sw2.trans sw24)
                have hM := hM.mono sw24
                obtain ⟨o1, o2, rfl, _, _⟩ := id hO
                obtain ⟨x1, x2, rfl, _, _⟩ := id hX
                refine dp_ed1 rfl (opT_storeW rfl rfl rfl rfl (belt_one hO)) rfl rfl rfl rfl <| dp_p rfl (fun _ _ => opT_assign rfl) rfl rfl rfl <| dp_ed1 rfl (opT_storeW rfl rfl rfl rfl (belt_one hX)) rfl rfl rfl rfl <| dp_ed1 rfl (opT_storeW rfl rfl rfl rfl (one_trayL left)) rfl rfl rfl rfl <| dp_done1 ?_
                refine en_then <| ?_
                exact en_met (b9, b11, b12, o1, o2, x1, x2, vm, hw24) ⟨(sw1.trans (sw2.trans sw24)), hO, hX, hM⟩ ⟨rfl, rfl, rfl, rfl, rfl, rfl, rfl, rfl, trivial⟩ (.refl _) inferInstance
              · skip
                obtain ⟨b12, rfl, e2, rfl⟩ := hC
                replace e2 := e2.symm; subst e2
                refine dp_e1 rfl opT_alloc rfl rfl rfl rfl fun _ _ _ _ hC => ?_
                obtain ⟨b9, rfl, e2, rfl⟩ := hC
                replace e2 := e2.symm; subst e2
                have hO := hO.mono (sw2.trans sw24)
                have hM := hM.mono sw24
                obtain ⟨o1, o2, rfl, _, _⟩ := id hO
                obtain ⟨x1, x2, rfl, _, _⟩ := id hX
                refine dp_ed1 rfl (opT_storeW rfl rfl rfl rfl (belt_one hO)) rfl rfl rfl rfl <| dp_p rfl (fun _ _ => opT_assign rfl) rfl rfl rfl <| dp_ed1 rfl (opT_storeW rfl rfl rfl rfl (belt_one hX)) rfl rfl rfl rfl <| dp_ed1 rfl (opT_storeW rfl rfl rfl rfl (one_trayL left)) rfl rfl rfl rfl <| dp_done1 ?_
                refine en_then <| ?_
                exact en_met (b9, b11, b12, o1, o2, x1, x2, vm, hw24) ⟨(sw1.trans (sw2.trans sw24)), hO, hX, hM⟩ ⟨rfl, rfl, rfl, rfl, rfl, rfl, rfl, rfl, trivial⟩ (.refl _) inferInstance
            · skip
              obtain ⟨b9, rfl, e2, rfl⟩ := hC
              replace e2 := e2.symm; subst e2
              refine dp_alts [5, 9] rfl (by simp) rfl rfl ⟨alt_op rfl (opT_call rfl rfl rfl (its_ct hw2 _ b (hb.mono (sw1.trans sw2)) hsm)) rfl rfl fun vx hw28 _ sw28 hC => ?_, alt_op rfl opT_alloc rfl rfl fun _ _ _ _ hC => ?_, trivial⟩
              · skip
                obtain ⟨_, ⟨hX, rfl⟩, rfl⟩ := hC
                refine dp_norm1 ?_
                refine dp_e1 rfl opT_alloc rfl rfl rfl rfl fun _ _ _ _ hC => ?_
                obtain ⟨b12, rfl, e2, rfl⟩ := hC
                replace e2 := e2.symm; subst e2
                have hO := hO.mono (sw2.trans sw28)
                have hM := hM.mono sw28
                obtain ⟨o1, o2, rfl, _, _⟩ := id hO
                obtain ⟨x1, x2, rfl, _, _⟩ := id hX
                refine dp_ed1 rfl (opT_storeW rfl rfl rfl rfl (belt_one hO)) rfl rfl rfl rfl <| dp_p rfl (fun _ _ => opT_assign rfl) rfl rfl rfl <| dp_ed1 rfl (opT_storeW rfl rfl rfl rfl (belt_one hX)) rfl rfl rfl rfl <| dp_ed1 rfl (opT_storeW rfl rfl rfl rfl (one_trayL left)) rfl rfl rfl rfl <| dp_done1 ?_
                refine en_then <| ?_
                exact en_met (b9, b11, b12, o1, o2, x1, x2, vm, hw28) ⟨(sw1.trans (sw2.trans sw28)), hO, hX, hM⟩ ⟨rfl, rfl, rfl, rfl, rfl, rfl, rfl, rfl, trivial⟩ (.refl _) inferInstance
              · skip
                obtain ⟨b12, rfl, e2, rfl⟩ := hC
                replace e2 := e2.symm; subst e2
                refine dp_e1 rfl (opT_call rfl rfl rfl (its_ct hw2 _ b (hb.mono (sw1.trans sw2)) hsm)) rfl rfl rfl rfl fun vx hw30 _ sw30 hC => ?_
                obtain ⟨_, ⟨hX, rfl⟩, rfl⟩ := hC
                refine dp_norm1 ?_
                have hO := hO.mono (sw2.trans sw30)
                have hM := hM.mono sw30
                obtain ⟨o1, o2, rfl, _, _⟩ := id hO
                obtain ⟨x1, x2, rfl, _, _⟩ := id hX
                refine dp_ed1 rfl (opT_storeW rfl rfl rfl rfl (belt_one hO)) rfl rfl rfl rfl <| dp_p rfl (fun _ _ => opT_assign rfl) rfl rfl rfl <| dp_ed1 rfl (opT_storeW rfl rfl rfl rfl (belt_one hX)) rfl rfl rfl rfl <| dp_ed1 rfl (opT_storeW rfl rfl rfl rfl (one_trayL left)) rfl rfl rfl rfl <| dp_done1 ?_
                refine en_then <| ?_
                exact en_met (b9, b11, b12, o1, o2, x1, x2, vm, hw30) ⟨(sw1.trans (sw2.trans sw30)), hO, hX, hM⟩ ⟨rfl, rfl, rfl, rfl, rfl, rfl, rfl, rfl, trivial⟩ (.refl _) inferInstance
            · skip
              obtain ⟨b12, rfl, e2, rfl⟩ := hC
              replace e2 := e2.symm; subst e2
              refine dp_alts [5, 7] rfl (by simp) rfl rfl ⟨alt_op rfl (opT_call rfl rfl rfl (its_ct hw2 _ b (hb.mono (sw1.trans sw2)) hsm)) rfl rfl fun vx hw31 _ sw31 hC => ?_, alt_op rfl opT_alloc rfl rfl fun _ _ _ _ hC => ?_, trivial⟩
              · skip
                obtain ⟨_, ⟨hX, rfl⟩, rfl⟩ := hC
                refine dp_norm1 ?_
                refine dp_e1 rfl opT_alloc rfl rfl rfl rfl fun _ _ _ _ hC => ?_
                obtain ⟨b9, rfl, e2, rfl⟩ := hC
                replace e2 := e2.symm; subst e2
                have hO := hO.mono (sw2.trans sw31)
                have hM := hM.mono sw31
                obtain ⟨o1, o2, rfl, _, _⟩ := id hO
                obtain ⟨x1, x2, rfl, _, _⟩ := id hX
                refine dp_ed1 rfl (opT_storeW rfl rfl rfl rfl (belt_one hO)) rfl rfl rfl rfl <| dp_p rfl (fun _ _ => opT_assign rfl) rfl rfl rfl <| dp_ed1 rfl (opT_storeW rfl rfl rfl rfl (belt_one hX)) rfl rfl rfl rfl <| dp_ed1 rfl (opT_storeW rfl rfl rfl rfl (one_trayL left)) rfl rfl rfl rfl <| dp_done1 ?_
                refine en_then <| ?_
                exact en_met (b9, b11, b12, o1, o2, x1, x2, vm, hw31) ⟨(sw1.trans (sw2.trans sw31)), hO, hX, hM⟩ ⟨rfl, rfl, rfl, rfl, rfl, rfl, rfl, rfl, trivial⟩ (.refl _) inferInstance
              · skip
                obtain ⟨b9, rfl, e2, rfl⟩ := hC
                replace e2 := e2.symm; subst e2
                refine dp_e1 rfl (opT_call rfl rfl rfl (its_ct hw2 _ b (hb.mono (sw1.trans sw2)) hsm)) rfl rfl rfl rfl fun vx hw33 _ sw33 hC => ?_
                obtain ⟨_, ⟨hX, rfl⟩, rfl⟩ := hC
                refine dp_norm1 ?_
                have hO := hO.mono (sw2.trans sw33)
                have hM := hM.mono sw33
                obtain ⟨o1, o2, rfl, _, _⟩ := id hO
                obtain ⟨x1, x2, rfl, _, _⟩ := id hX
                refine dp_ed1 rfl (opT_storeW rfl rfl rfl rfl (belt_one hO)) rfl rfl rfl rfl <| dp_p rfl (fun _ _ => opT_assign rfl) rfl rfl rfl <| dp_ed1 rfl (opT_storeW rfl rfl rfl rfl (belt_one hX)) rfl rfl rfl rfl <| dp_ed1 rfl (opT_storeW rfl rfl rfl rfl (one_trayL left)) rfl rfl rfl rfl <| dp_done1 ?_
                refine en_then <| ?_
                exact en_met (b9, b11, b12, o1, o2, x1, x2, vm, hw33) ⟨(sw1.trans (sw2.trans sw33)), hO, hX, hM⟩ ⟨rfl, rfl, rfl, rfl, rfl, rfl, rfl, rfl, trivial⟩ (.refl _) inferInstance
          · skip
            obtain ⟨b12, rfl, e2, rfl⟩ := hC
            replace e2 := e2.symm; subst e2
            refine dp_alts [5, 7, 8] rfl (by simp) rfl rfl ⟨alt_op rfl (opT_call rfl rfl rfl (its_ct hw2 _ b (hb.mono (sw1.trans sw2)) hsm)) rfl rfl fun vx hw34 _ sw34 hC => ?_, alt_op rfl opT_alloc rfl rfl fun _ _ _ _ hC => ?_, alt_op rfl opT_alloc rfl rfl fun _ _ _ _ hC => ?_, trivial⟩
            · skip
              obtain ⟨_, ⟨hX, rfl⟩, rfl⟩ := hC
              refine dp_norm1 ?_
              refine dp_alts [7, 8] rfl (by simp) rfl rfl ⟨alt_op rfl opT_alloc rfl rfl fun _ _ _ _ hC => ?_, alt_op rfl opT_alloc rfl rfl fun _ _ _ _ hC => ?_, trivial⟩
              · skip
                obtain ⟨b9, rfl, e2, rfl⟩ := hC
                replace e2 := e2.symm; subst e2
                refine dp_e1 rfl opT_alloc rfl rfl rfl rfl fun _ _ _ _ hC => ?_
                obtain ⟨b11, rfl, e2, rfl⟩ := hC
                replace e2 := e2.symm; subst e2
                have hO := hO.mono (sw2.trans sw34)
                have hM := hM.mono sw34
                obtain ⟨o1, o2, rfl, _, _⟩ := id hO
                obtain ⟨x1, x2, rfl, _, _⟩ := id hX
                refine dp_ed1 rfl (opT_storeW rfl rfl rfl rfl (belt_one hO)) rfl rfl rfl rfl <| dp_p rfl (fun _ _ => opT_assign rfl) rfl rfl rfl <| dp_ed1 rfl (opT_storeW rfl rfl rfl rfl (belt_one hX)) rfl rfl rfl rfl <| dp_ed1 rfl (opT_storeW rfl rfl rfl rfl (one_trayL left)) rfl rfl rfl rfl <| dp_done1 ?_
                refine en_then <| ?_
                exact en_met (b9, b11, b12, o1, o2, x1, x2, vm, hw34) ⟨(sw1.trans (sw2.trans sw34)), hO, hX, hM⟩ ⟨rfl, rfl, rfl, rfl, rfl, rfl, rfl, rfl, trivial⟩ (.refl _) inferInstance
              · skip
                obtain ⟨b11, rfl, e2, rfl⟩ := hC
                replace e2 := e2.symm; subst e2
                refine dp_e1 rfl opT_alloc rfl rfl rfl rfl fun _ _ _ _ hC => ?_
                obtain ⟨b9, rfl, e2, rfl⟩ := hC
                replace e2 := e2.symm; subst e2
                have hO := hO.mono (sw2.trans sw34)
                have hM := hM.mono sw34
                obtain ⟨o1, o2, rfl, _, _⟩ := id hO
                obtain ⟨x1, x2, rfl, _, _⟩ := id hX
                refine dp_ed1 rfl (opT_storeW rfl rfl rfl rfl (belt_one hO)) rfl rfl rfl rfl <| dp_p rfl (fun _ _ => opT_assign rfl) rfl rfl rfl <| dp_ed1 rfl (opT_storeW rfl rfl rfl rfl (belt_one hX)) rfl rfl rfl rfl <| dp_ed1 rfl (opT_storeW rfl rfl rfl rfl (one_trayL left)) rfl rfl rfl rfl <| dp_done1 ?_
                refine en_then <| ?_
                exact en_met (b9, b11, b12, o1, o2, x1, x2, vm, hw34) ⟨(sw1.trans (sw2.trans sw34)), hO, hX, hM⟩ ⟨rfl, rfl, rfl, rfl, rfl, rfl, rfl, rfl, trivial⟩ (.refl _) inferInstance
            · skip
              obtain ⟨b9, rfl, e2, rfl⟩ := hC
              replace e2 := e2.symm; subst e2
              refine dp_alts [5, 8] rfl (by simp) rfl rfl ⟨alt_op rfl (opT_call rfl rfl rfl (its_ct hw2 _ b (hb.mono (sw1.trans sw2)) hsm)) rfl rfl fun vx hw38 _ sw38 hC => ?_, alt_op rfl opT_alloc rfl rfl fun _ _ _ _ hC => ?_, trivial⟩
              · skip
                obtain ⟨_, ⟨hX, rfl⟩, rfl⟩ := hC
                refine dp_norm1 ?_
                refine dp_e1 rfl opT_alloc rfl rfl rfl rfl fun _ _ _ _ hC => ?_
                obtain ⟨b11, rfl, e2, rfl⟩ := hC
                replace e2 := e2.symm; subst e2
                have hO := hO.mono (sw2.trans sw38)
                have hM := hM.mono sw38
                obtain ⟨o1, o2, rfl, _, _⟩ := id hO
                obtain ⟨x1, x2, rfl, _, _⟩ := id hX
                refine dp_ed1 rfl (opT_storeW rfl rfl rfl rfl (belt_one hO)) rfl rfl rfl rfl <| dp_p rfl (fun _ _ => opT_assign rfl) rfl rfl rfl <| dp_ed1 rfl (opT_storeW rfl rfl rfl rfl (belt_one hX)) rfl rfl rfl rfl <| dp_ed1 rfl (opT_storeW rfl rfl rfl rfl (one_trayL left)) rfl rfl rfl rfl <| dp_done1 ?_
                refine en_then <| ?_
                exact en_met (b9, b11, b12, o1, o2, x1, x2, vm, hw38) ⟨(sw1.trans (sw2.trans sw38)), hO, hX, hM⟩ ⟨rfl, rfl, rfl, rfl, rfl, rfl, rfl, rfl, trivial⟩ (.refl _) inferInstance
              · skip
                obtain ⟨b11, rfl, e2, rfl⟩ := hC
                replace e2 := e2.symm; subst e2
                refine dp_e1 rfl (opT_call rfl rfl rfl (its_ct hw2 _ b (hb.mono (sw1.trans sw2)) hsm)) rfl rfl rfl rfl fun vx hw40 _ sw40 hC => ?_
                obtain ⟨_, ⟨hX, rfl⟩, rfl⟩ := hC
                refine dp_norm1 ?_
                have hO := hO.mono (sw2.trans sw40)
                have hM := hM.mono sw40
                obtain ⟨o1, o2, rfl, _, _⟩ := id hO
                obtain ⟨x1, x2, rfl, _, _⟩ := id hX
                refine dp_ed1 rfl (opT_storeW rfl rfl rfl rfl (belt_one hO)) rfl rfl rfl rfl <| dp_p rfl (fun _ _ => opT_assign rfl) rfl rfl rfl <| dp_ed1 rfl (opT_storeW rfl rfl rfl rfl (belt_one hX)) rfl rfl rfl rfl <| dp_ed1 rfl (opT_storeW rfl rfl rfl rfl (one_trayL left)) rfl rfl rfl rfl <| dp_done1 ?_
                refine en_then <| ?_
                exact en_met (b9, b11, b12, o1, o2, x1, x2, vm, hw40) ⟨(sw1.trans (sw2.trans sw40)), hO, hX, hM⟩ ⟨rfl, rfl, rfl, rfl, rfl, rfl, rfl, rfl, trivial⟩ (.refl _) inferInstance
            · skip
              obtain ⟨b11, rfl, e2, rfl⟩ := hC
              replace e2 := e2.symm; subst e2
              refine dp_alts [5, 7] rfl (by simp) rfl rfl ⟨alt_op rfl (opT_call rfl rfl rfl (its_ct hw2 _ b (hb.mono (sw1.trans sw2)) hsm)) rfl rfl fun vx hw41 _ sw41 hC => ?_, alt_op rfl opT_alloc rfl rfl fun _ _ _ _ hC => ?_, trivial⟩
              · skip
                obtain ⟨_, ⟨hX, rfl⟩, rfl⟩ := hC
                refine dp_norm1 ?_
                refine dp_e1 rfl opT_alloc rfl rfl rfl rfl fun _ _ _ _ hC => ?_
                obtain ⟨b9, rfl, e2, rfl⟩ := hC
                replace e2 := e2.symm; subst e2
                have hO := hO.mono (sw2.trans sw41)
                have hM := hM.mono sw41
                obtain ⟨o1, o2, rfl, _, _⟩ := id hO
                obtain ⟨x1, x2, rfl, _, _⟩ := id hX
                refine dp_ed1 rfl (opT_storeW rfl rfl rfl rfl (belt_one hO)) rfl rfl rfl rfl <| dp_p rfl (fun _ _ => opT_assign rfl) rfl rfl rfl <| dp_ed1 rfl (opT_storeW rfl rfl rfl rfl (belt_one hX)) rfl rfl rfl rfl <| dp_ed1 rfl (opT_storeW rfl rfl rfl rfl (one_trayL left)) rfl rfl rfl rfl <| dp_done1 ?_
                refine en_then <| ?_
                exact en_met (b9, b11, b12, o1, o2, x1, x2, vm, hw41) ⟨(sw1.trans (sw2.trans sw41)), hO, hX, hM⟩ ⟨rfl, rfl, rfl, rfl, rfl, rfl, rfl, rfl, trivial⟩ (.refl _) inferInstance
              · skip
                obtain ⟨b9, rfl, e2, rfl⟩ := hC
                replace e2 := e2.symm; subst e2
                refine dp_e1 rfl (opT_call rfl rfl rfl (its_ct hw2 _ b (hb.mono (sw1.trans sw2)) hsm)) rfl rfl rfl rfl fun vx hw43 _ sw43 hC => ?_
                obtain ⟨_, ⟨hX, rfl⟩, rfl⟩ := hC
                refine dp_norm1 ?_
                have hO := hO.mono (sw2.trans sw43)
                have hM := hM.mono sw43
                obtain ⟨o1, o2, rfl, _, _⟩ := id hO
                obtain ⟨x1, x2, rfl, _, _⟩ := id hX
                refine dp_ed1 rfl (opT_storeW rfl rfl rfl rfl (belt_one hO)) rfl rfl rfl rfl <| dp_p rfl (fun _ _ => opT_assign rfl) rfl rfl rfl <| dp_ed1 rfl (opT_storeW rfl rfl rfl rfl (belt_one hX)) rfl rfl rfl rfl <| dp_ed1 rfl (opT_storeW rfl rfl rfl rfl (one_trayL left)) rfl rfl rfl rfl <| dp_done1 ?_
                refine en_then <| ?_
                exact en_met (b9, b11, b12, o1, o2, x1, x2, vm, hw43) ⟨(sw1.trans (sw2.trans sw43)), hO, hX, hM⟩ ⟨rfl, rfl, rfl, rfl, rfl, rfl, rfl, rfl, trivial⟩ (.refl _) inferInstance
        · skip
          obtain ⟨b9, rfl, e2, rfl⟩ := hC
          replace e2 := e2.symm; subst e2
          refine dp_alts [3, 8, 9] rfl (by simp) rfl rfl ⟨alt_op rfl (opT_call rfl rfl rfl (copyM_ct hw1 _ l (hs.mono sw1) (by omega))) rfl rfl fun vm hw44 _ sw44 hC => ?_, alt_op rfl opT_alloc rfl rfl fun _ _ _ _ hC => ?_, alt_op rfl opT_alloc rfl rfl fun _ _ _ _ hC => ?_, trivial⟩
          · skip
            obtain ⟨_, ⟨hM, rfl⟩, rfl⟩ := hC
            refine dp_norm1 ?_
            refine dp_alts [5, 8, 9] rfl (by simp) rfl rfl ⟨alt_op rfl (opT_call rfl rfl rfl (its_ct hw44 _ b (hb.mono (sw1.trans sw44)) hsm)) rfl rfl fun vx hw45 _ sw45 hC => ?_, alt_op rfl opT_alloc rfl rfl fun _ _ _ _ hC => ?_, alt_op rfl opT_alloc rfl rfl fun _ _ _ _ hC => ?_, trivial⟩
            · skip
              obtain ⟨_, ⟨hX, rfl⟩, rfl⟩ := hC
              refine dp_norm1 ?_
              refine dp_alts [8, 9] rfl (by simp) rfl rfl ⟨alt_op rfl opT_alloc rfl rfl fun _ _ _ _ hC => ?_, alt_op rfl opT_alloc rfl rfl fun _ _ _ _ hC => ?_, trivial⟩
              · skip
                obtain ⟨b11, rfl, e2, rfl⟩ := hC
                replace e2 := e2.symm; subst e2
                refine dp_e1 rfl opT_alloc rfl rfl rfl rfl fun _ _ _ _ hC => ?_
                obtain ⟨b12, rfl, e2, rfl⟩ := hC
                replace e2 := e2.symm; subst e2
                have hO := hO.mono (sw44.trans sw45)
                have hM := hM.mono sw45
                obtain ⟨o1, o2, rfl, _, _⟩ := id hO
                obtain ⟨x1, x2, rfl, _, _⟩ := id hX
                refine dp_ed1 rfl (opT_storeW rfl rfl rfl rfl (belt_one hO)) rfl rfl rfl rfl <| dp_p rfl (fun _ _ => opT_assign rfl) rfl rfl rfl <| dp_ed1 rfl (opT_storeW rfl rfl rfl rfl (belt_one hX)) rfl rfl rfl rfl <| dp_ed1 rfl (opT_storeW rfl rfl rfl rfl (one_trayL left)) rfl rfl rfl rfl <| dp_done1 ?_
                refine en_then <| ?_
                exact en_met (b9, b11, b12, o1, o2, x1, x2, vm, hw45) ⟨(sw1.trans (sw44.trans sw45)), hO, hX, hM⟩ ⟨rfl, rfl, rfl, rfl, rfl, rfl, rfl, rfl, trivial⟩ (.refl _) inferInstance
              · skip
                obtain ⟨b12, rfl, e2, rfl⟩ := hC
                replace e2 := e2.symm; subst e2
                refine dp_e1 rfl opT_alloc rfl rfl rfl rfl fun _ _ _ _ hC => ?_
                obtain ⟨b11, rfl, e2, rfl⟩ := hC
                replace e2 := e2.symm; subst e2
                have hO := hO.mono (sw44.trans sw45)
                have hM := hM.mono sw45
                obtain ⟨o1, o2, rfl, _, _⟩ := id hO
                obtain ⟨x1, x2, rfl, _, _⟩ := id hX
                refine dp_ed1 rfl (opT_storeW rfl rfl rfl rfl (belt_one hO)) rfl rfl rfl rfl <| dp_p rfl (fun _ _ => opT_assign rfl) rfl rfl rfl <| dp_ed1 rfl (opT_storeW rfl rfl rfl rfl (belt_one hX)) rfl rfl rfl rfl <| dp_ed1 rfl (opT_storeW rfl rfl rfl rfl (one_trayL left)) rfl rfl rfl rfl <| dp_done1 ?_
                refine en_then <| ?_
                exact en_met (b9, b11, b12, o1, o2, x1, x2, vm, hw45) ⟨(sw1.trans (sw44.trans sw45)), hO, hX, hM⟩ ⟨rfl, rfl, rfl, rfl, rfl, rfl, rfl, rfl, trivial⟩ (.refl _) inferInstance
            · skip
              obtain ⟨b11, rfl, e2, rfl⟩ := hC
              replace e2 := e2.symm; subst e2
              refine dp_alts [5, 9] rfl (by simp) rfl rfl ⟨alt_op rfl (opT_call rfl rfl rfl (its_ct hw44 _ b (hb.mono (sw1.trans sw44)) hsm)) rfl rfl fun vx hw49 _ sw49 hC => ?_, alt_op rfl opT_alloc rfl rfl fun _ _ _ _ hC => ?_, trivial⟩
              · skip
                obtain ⟨_, ⟨hX, rfl⟩, rfl⟩ := hC
                refine dp_norm1 ?_
                refine dp_e1 rfl opT_alloc rfl rfl rfl rfl fun _ _ _ _ hC => ?_
                obtain ⟨b12, rfl, e2, rfl⟩ := hC
                replace e2 := e2.symm; subst e2
                have hO := hO.mono (sw44.trans sw49)
                have hM := hM.mono sw49
                obtain ⟨o1, o2, rfl, _, _⟩ := id hO
                obtain ⟨x1, x2, rfl, _, _⟩ := id hX
                refine dp_ed1 rfl (opT_storeW rfl rfl rfl rfl (belt_one hO)) rfl rfl rfl rfl <| dp_p rfl (fun _ _ => opT_assign rfl) rfl rfl rfl <| dp_ed1 rfl (opT_storeW rfl rfl rfl rfl (belt_one hX)) rfl rfl rfl rfl <| dp_ed1 rfl (opT_storeW rfl rfl rfl rfl (one_trayL left)) rfl rfl rfl rfl <| dp_done1 ?_
                refine en_then <| ?_
                exact en_met (b9, b11, b12, o1, o2, x1, x2, vm, hw49) ⟨(sw1.trans (sw44.trans sw49)), hO, hX, hM⟩ ⟨rfl, rfl, rfl, rfl, rfl, rfl, rfl, rfl, trivial⟩ (.refl _) inferInstance
              · skip
                obtain ⟨b12, rfl, e2, rfl⟩ := hC
                replace e2 := e2.symm; subst e2
                refine dp_e1 rfl (opT_call rfl rfl rfl (its_ct hw44 _ b (hb.mono (sw1.trans sw44)) hsm)) rfl rfl rfl rfl fun vx hw51 _ sw51 hC => ?_
                obtain ⟨_, ⟨hX, rfl⟩, rfl⟩ := hC
                refine dp_norm1 ?_
                have hO := hO.mono (sw44.trans sw51)
                have hM := hM.mono sw51
                obtain ⟨o1, o2, rfl, _, _⟩ := id hO
                obtain ⟨x1, x2, rfl, _, _⟩ := id hX
                refine dp_ed1 rfl (opT_storeW rfl rfl rfl rfl (belt_one hO)) rfl rfl rfl rfl <| dp_p rfl (fun _ _ => opT_assign rfl) rfl rfl rfl <| dp_ed1 rfl (opT_storeW rfl rfl rfl rfl (belt_one hX)) rfl rfl rfl rfl <| dp_ed1 rfl (opT_storeW rfl rfl rfl rfl (one_trayL left)) rfl rfl rfl rfl <| dp_done1 ?_
                refine en_then <| ?_
                exact en_met (b9, b11, b12, o1, o2, x1, x2, vm, hw51) ⟨(sw1.trans (sw44.trans sw51)), hO, hX, hM⟩ ⟨rfl, rfl, rfl, rfl, rfl, rfl, rfl, rfl, trivial⟩ (.refl _) inferInstance
            · skip
              obtain ⟨b12, rfl, e2, rfl⟩ := hC
              replace e2 := e2.symm; subst e2
              refine dp_alts [5, 8] rfl (by simp) rfl rfl ⟨alt_op rfl (opT_call rfl rfl rfl (its_ct hw44 _ b (hb.mono (sw1.trans sw44)) hsm)) rfl rfl fun vx hw52 _ sw52 hC => ?_, alt_op rfl opT_alloc rfl rfl fun _ _ _ _ hC => ?_, trivial⟩
              · skip
                obtain ⟨_, ⟨hX, rfl⟩, rfl⟩ := hC
                refine dp_norm1 ?_
                refine dp_e1 rfl opT_alloc rfl rfl rfl rfl fun _ _ _ _ hC => ?_
                obtain ⟨b11, rfl, e2, rfl⟩ := hC
                replace e2 := e2.symm; subst e2
                have hO := hO.mono (sw44.trans sw52)
                have hM := hM.mono sw52
                obtain ⟨o1, o2, rfl, _, _⟩ := id hO
                obtain ⟨x1, x2, rfl, _, _⟩ := id hX
                refine dp_ed1 rfl (opT_storeW rfl rfl rfl rfl (belt_one hO)) rfl rfl rfl rfl <| dp_p rfl (fun _ _ => opT_assign rfl) rfl rfl rfl <| dp_ed1 rfl (opT_storeW rfl rfl rfl rfl (belt_one hX)) rfl rfl rfl rfl <| dp_ed1 rfl (opT_storeW rfl rfl rfl rfl (one_trayL left)) rfl rfl rfl rfl <| dp_done1 ?_
                refine en_then <| ?_
                exact en_met (b9, b11, b12, o1, o2, x1, x2, vm, hw52) ⟨(sw1.trans (sw44.trans sw52)), hO, hX, hM⟩ ⟨rfl, rfl, rfl, rfl, rfl, rfl, rfl, rfl, trivial⟩ (.refl _) inferInstance
              · skip
                obtain ⟨b11, rfl, e2, rfl⟩ := hC
                replace e2 := e2.symm; subst e2
                refine dp_e1 rfl (opT_call rfl rfl rfl (its_ct hw44 _ b (hb.mono (sw1.trans sw44)) hsm)) rfl rfl rfl rfl fun vx hw54 _ sw54 hC => ?_
                obtain ⟨_, ⟨hX, rfl⟩, rfl⟩ := hC
                refine dp_norm1 ?_
                have hO := hO.mono (sw44.trans sw54)
                have hM := hM.mono sw54
                obtain ⟨o1, o2, rfl, _, _⟩ := id hO
                obtain ⟨x1, x2, rfl, _, _⟩ := id hX
                refine dp_ed1 rfl (opT_storeW rfl rfl rfl rfl (belt_one hO)) rfl rfl rfl rfl <| dp_p rfl (fun _ _ => opT_assign rfl) rfl rfl rfl <| dp_ed1 rfl (opT_storeW rfl rfl rfl rfl (belt_one hX)) rfl rfl rfl rfl <| dp_ed1 rfl (opT_storeW rfl rfl rfl rfl (one_trayL left)) rfl rfl rfl rfl <| dp_done1 ?_
                refine en_then <| ?_
                exact en_met (b9, b11, b12, o1, o2, x1, x2, vm, hw54) ⟨(sw1.trans (sw44.trans sw54)), hO, hX, hM⟩ ⟨rfl, rfl, rfl, rfl, rfl, rfl, rfl, rfl, trivial⟩ (.refl _) inferInstance
          · skip
            obtain ⟨b11, rfl, e2, rfl⟩ := hC
            replace e2 := e2.symm; subst e2
            refine dp_alts [3, 9] rfl (by simp) rfl rfl ⟨alt_op rfl (opT_call rfl rfl rfl (copyM_ct hw1 _ l (hs.mono sw1) (by omega))) rfl rfl fun vm hw55 _ sw55 hC => ?_, alt_op rfl opT_alloc rfl rfl fun _ _ _ _ hC => ?_, trivial⟩
            · skip
              obtain ⟨_, ⟨hM, rfl⟩, rfl⟩ := hC
              refine dp_norm1 ?_
              refine dp_alts [5, 9] rfl (by simp) rfl rfl ⟨alt_op rfl (opT_call rfl rfl rfl (its_ct hw55 _ b (hb.mono (sw1.trans sw55)) hsm)) rfl rfl fun vx hw56 _ sw56 hC => ?_, alt_op rfl opT_alloc rfl rfl fun _ _ _ _ hC => ?_, trivial⟩
              · skip
                obtain ⟨_, ⟨hX, rfl⟩, rfl⟩ := hC
                refine dp_norm1 ?_
                refine dp_e1 rfl opT_alloc rfl rfl rfl rfl fun _ _ _ _ hC => ?_
                obtain ⟨b12, rfl, e2, rfl⟩ := hC
                replace e2 := e2.symm; subst e2
                have hO := hO.mono (sw55.trans sw56)
                have hM := hM.mono sw56
                obtain ⟨o1, o2, rfl, _, _⟩ := id hO
                obtain ⟨x1, x2, rfl, _, _⟩ := id hX
                refine dp_ed1 rfl (opT_storeW rfl rfl rfl rfl (belt_one hO)) rfl rfl rfl rfl <| dp_p rfl (fun _ _ => opT_assign rfl) rfl rfl rfl <| dp_ed1 rfl (opT_storeW rfl rfl rfl rfl (belt_one hX)) rfl rfl rfl rfl <| dp_ed1 rfl (opT_storeW rfl rfl rfl rfl (one_trayL left)) rfl rfl rfl rfl <| dp_done1 ?_
                refine en_then <| ?_
                exact en_met (b9, b11, b12, o1, o2, x1, x2, vm, hw56) ⟨(sw1.trans (sw55.trans sw56)), hO, hX, hM⟩ ⟨rfl, rfl, rfl, rfl, rfl, rfl, rfl, rfl, trivial⟩ (.refl _) inferInstance
              · skip
                obtain ⟨b12, rfl, e2, rfl⟩ := hC
                replace e2 := e2.symm; subst e2
                refine dp_e1 rfl (opT_call rfl rfl rfl (its_ct hw55 _ b (hb.mono (sw1.trans sw55)) hsm)) rfl rfl rfl rfl fun vx hw58 _ sw58 hC => ?_
                obtain ⟨_, ⟨hX, rfl⟩, rfl⟩ := hC
                refine dp_norm1 ?_
                have hO := hO.mono (sw55.trans sw58)
                have hM := hM.mono sw58
                obtain ⟨o1, o2, rfl, _, _⟩ := id hO
                obtain ⟨x1, x2, rfl, _, _⟩ := id hX
                refine dp_ed1 rfl (opT_storeW rfl rfl rfl rfl (belt_one hO)) rfl rfl rfl rfl <| dp_p rfl (fun _ _ => opT_assign rfl) rfl rfl rfl <| dp_ed1 rfl (opT_storeW rfl rfl rfl rfl (belt_one hX)) rfl rfl rfl rfl <| dp_ed1 rfl (opT_storeW rfl rfl rfl rfl (one_trayL left)) rfl rfl rfl rfl <| dp_done1 ?_
                refine en_then <| ?_
                exact en_met (b9, b11, b12, o1, o2, x1, x2, vm, hw58) ⟨(sw1.trans (sw55.trans sw58)), hO, hX, hM⟩ ⟨rfl, rfl, rfl, rfl, rfl, rfl, rfl, rfl, trivial⟩ (.refl _) inferInstance
            · skip
              obtain ⟨b12, rfl, e2, rfl⟩ := hC
              replace e2 := e2.symm; subst e2
              refine dp_e1 rfl (opT_call rfl rfl rfl (copyM_ct hw1 _ l (hs.mono sw1) (by omega))) rfl rfl rfl rfl fun vm hw59 _ sw59 hC => ?_
              obtain ⟨_, ⟨hM, rfl⟩, rfl⟩ := hC
              refine dp_norm1 ?_
              refine dp_e1 rfl (opT_call rfl rfl rfl (its_ct hw59 _ b (hb.mono (sw1.trans sw59)) hsm)) rfl rfl rfl rfl fun vx hw60 _ sw60 hC => ?_
              obtain ⟨_, ⟨hX, rfl⟩, rfl⟩ := hC
              refine dp_norm1 ?_
              have hO := hO.mono (sw59.trans sw60)
              have hM := hM.mono sw60
              obtain ⟨o1, o2, rfl, _, _⟩ := id hO
              obtain ⟨x1, x2, rfl, _, _⟩ := id hX
              refine dp_ed1 rfl (opT_storeW rfl rfl rfl rfl (belt_one hO)) rfl rfl rfl rfl <| dp_p rfl (fun _ _ => opT_assign rfl) rfl rfl rfl <| dp_ed1 rfl (opT_storeW rfl rfl rfl rfl (belt_one hX)) rfl rfl rfl rfl <| dp_ed1 rfl (opT_storeW rfl rfl rfl rfl (one_trayL left)) rfl rfl rfl rfl <| dp_done1 ?_
              refine en_then <| ?_
              exact en_met (b9, b11, b12, o1, o2, x1, x2, vm, hw60) ⟨(sw1.trans (sw59.trans sw60)), hO, hX, hM⟩ ⟨rfl, rfl, rfl, rfl, rfl, rfl, rfl, rfl, trivial⟩ (.refl _) inferInstance
          · skip
            obtain ⟨b12, rfl, e2, rfl⟩ := hC
            replace e2 := e2.symm; subst e2
            refine dp_alts [3, 8] rfl (by simp) rfl rfl ⟨alt_op rfl (opT_call rfl rfl rfl (copyM_ct hw1 _ l (hs.mono sw1) (by omega))) rfl rfl fun vm hw61 _ sw61 hC => ?_, alt_op rfl opT_alloc rfl rfl fun _ _ _ _ hC => ?_, trivial⟩
            · skip
              obtain ⟨_, ⟨hM, rfl⟩, rfl⟩ := hC
              refine dp_norm1 ?_
              refine dp_alts [5, 8] rfl (by simp) rfl rfl ⟨alt_op rfl (opT_call rfl rfl rfl (its_ct hw61 _ b (hb.mono (sw1.trans sw61)) hsm)) rfl rfl fun vx hw62 _ sw62 hC => ?_, alt_op rfl opT_alloc rfl rfl fun _ _ _ _ hC => ?_, trivial⟩
              · skip
                obtain ⟨_, ⟨hX, rfl⟩, rfl⟩ := hC
                refine dp_norm1 ?_
                refine dp_e1 rfl opT_alloc rfl rfl rfl rfl fun _ _ _ _ hC => ?_
                obtain ⟨b11, rfl, e2, rfl⟩ := hC
                replace e2 := e2.symm; subst e2
                have hO := hO.mono (sw61.trans sw62)
                have hM := hM.mono sw62
                obtain ⟨o1, o2, rfl, _, _⟩ := id hO
                obtain ⟨x1, x2, rfl, _, _⟩ := id hX
                refine dp_ed1 rfl (opT_storeW rfl rfl rfl rfl (belt_one hO)) rfl rfl rfl rfl <| dp_p rfl (fun _ _ => opT_assign rfl) rfl rfl rfl <| dp_ed1 rfl (opT_storeW rfl rfl rfl rfl (belt_one hX)) rfl rfl rfl rfl <| dp_ed1 rfl (opT_storeW rfl rfl rfl rfl (one_trayL left)) rfl rfl rfl rfl <| dp_done1 ?_
                refine en_then <| ?_
                exact en_met (b9, b11, b12, o1, o2, x1, x2, vm, hw62) ⟨(sw1.trans (sw61.trans sw62)), hO, hX, hM⟩ ⟨rfl, rfl, rfl, rfl, rfl, rfl, rfl, rfl, trivial⟩ (.refl _) inferInstance
              · skip
                obtain ⟨b11, rfl, e2, rfl⟩ := hC
                replace e2 := e2.symm; subst e2
                refine dp_e1 rfl (opT_call rfl rfl rfl (its_ct hw61 _ b (hb.mono (sw1.trans sw61)) hsm)) rfl rfl rfl rfl fun vx hw64 _ sw64 hC => ?_
                obtain ⟨_, ⟨hX, rfl⟩, rfl⟩ := hC
                refine dp_norm1 ?_
                have hO := hO.mono (sw61.trans sw64)
                have hM := hM.mono sw64
                obtain ⟨o1, o2, rfl, _, _⟩ := id hO
                obtain ⟨x1, x2, rfl, _, _⟩ := id hX
                refine dp_ed1 rfl (opT_storeW rfl rfl rfl rfl (belt_one hO)) rfl rfl rfl rfl <| dp_p rfl (fun _ _ => opT_assign rfl) rfl rfl rfl <| dp_ed1 rfl (opT_storeW rfl rfl rfl rfl (belt_one hX)) rfl rfl rfl rfl <| dp_ed1 rfl (opT_storeW rfl rfl rfl rfl (one_trayL left)) rfl rfl rfl rfl <| dp_done1 ?_
                refine en_then <| ?_
                exact en_met (b9, b11, b12, o1, o2, x1, x2, vm, hw64) ⟨(sw1.trans (sw61.trans sw64)), hO, hX, hM⟩ ⟨rfl, rfl, rfl, rfl, rfl, rfl, rfl, rfl, trivial⟩ (.refl _) inferInstance
            · skip
              obtain ⟨b11, rfl, e2, rfl⟩ := hC
              replace e2 := e2.symm; subst e2
              refine dp_e1 rfl (opT_call rfl rfl rfl (copyM_ct hw1 _ l (hs.mono sw1) (by omega))) rfl rfl rfl rfl fun vm hw65 _ sw65 hC => ?_
              obtain ⟨_, ⟨hM, rfl⟩, rfl⟩ := hC
              refine dp_norm1 ?_
              refine dp_e1 rfl (opT_call rfl rfl rfl (its_ct hw65 _ b (hb.mono (sw1.trans sw65)) hsm)) rfl rfl rfl rfl fun vx hw66 _ sw66 hC => ?_
              obtain ⟨_, ⟨hX, rfl⟩, rfl⟩ := hC
              refine dp_norm1 ?_
              have hO := hO.mono (sw65.trans sw66)
              have hM := hM.mono sw66
              obtain ⟨o1, o2, rfl, _, _⟩ := id hO
              obtain ⟨x1, x2, rfl, _, _⟩ := id hX
              refine dp_ed1 rfl (opT_storeW rfl rfl rfl rfl (belt_one hO)) rfl rfl rfl rfl <| dp_p rfl (fun _ _ => opT_assign rfl) rfl rfl rfl <| dp_ed1 rfl (opT_storeW rfl rfl rfl rfl (belt_one hX)) rfl rfl rfl rfl <| dp_ed1 rfl (opT_storeW rfl rfl rfl rfl (one_trayL left)) rfl rfl rfl rfl <| dp_done1 ?_
              refine en_then <| ?_
              exact en_met (b9, b11, b12, o1, o2, x1, x2, vm, hw66) ⟨(sw1.trans (sw65.trans sw66)), hO, hX, hM⟩ ⟨rfl, rfl, rfl, rfl, rfl, rfl, rfl, rfl, trivial⟩ (.refl _) inferInstance
        · skip
          obtain ⟨b11, rfl, e2, rfl⟩ := hC
          replace e2 := e2.symm; subst e2
          refine dp_alts [3, 7, 9] rfl (by simp) rfl rfl ⟨alt_op rfl (opT_call rfl rfl rfl (copyM_ct hw1 _ l (hs.mono sw1) (by omega))) rfl rfl fun vm hw67 _ sw67 hC => ?_, alt_op rfl opT_alloc rfl rfl fun _ _ _ _ hC => ?_, alt_op rfl opT_alloc rfl rfl fun _ _ _ _ hC => ?_, trivial⟩
          · skip
            obtain ⟨_, ⟨hM, rfl⟩, rfl⟩ := hC
            refine dp_norm1 ?_
            refine dp_alts [5, 7, 9] rfl (by simp) rfl rfl ⟨alt_op rfl (opT_call rfl rfl rfl (its_ct hw67 _ b (hb.mono (sw1.trans sw67)) hsm)) rfl rfl fun vx hw68 _ sw68 hC => ?_, alt_op rfl opT_alloc rfl rfl fun _ _ _ _ hC => ?_, alt_op rfl opT_alloc rfl rfl fun _ _ _ _ hC => ?_, trivial⟩
            · skip
              obtain ⟨_, ⟨hX, rfl⟩, rfl⟩ := hC
              refine dp_norm1 ?_
              refine dp_alts [7, 9] rfl (by simp) rfl rfl ⟨alt_op rfl opT_alloc rfl rfl fun _ _ _ _ hC => ?_, alt_op rfl opT_alloc rfl rfl fun _ _ _ _ hC => ?_, trivial⟩
              · skip
                obtain ⟨b9, rfl, e2, rfl⟩ := hC
                replace e2 := e2.symm; subst e2
                refine dp_e1 rfl opT_alloc rfl rfl rfl rfl fun _ _ _ _ hC => ?_
                obtain ⟨b12, rfl, e2, rfl⟩ := hC
                replace e2 := e2.symm; subst e2
                have hO := hO.mono (sw67.trans sw68)
                have hM := hM.mono sw68
                obtain ⟨o1, o2, rfl, _, _⟩ := id hO
                obtain ⟨x1, x2, rfl, _, _⟩ := id hX
                refine dp_ed1 rfl (opT_storeW rfl rfl rfl rfl (belt_one hO)) rfl rfl rfl rfl <| dp_p rfl (fun _ _ => opT_assign rfl) rfl rfl rfl <| dp_ed1 rfl (opT_storeW rfl rfl rfl rfl (belt_one hX)) rfl rfl rfl rfl <| dp_ed1 rfl (opT_storeW rfl rfl rfl rfl (one_trayL left)) rfl rfl rfl rfl <| dp_done1 ?_
                refine en_then <| ?_
                exact en_met (b9, b11, b12, o1, o2, x1, x2, vm, hw68) ⟨(sw1.trans (sw67.trans sw68)), hO, hX, hM⟩ ⟨rfl, rfl, rfl, rfl, rfl, rfl, rfl, rfl, trivial⟩ (.refl _) inferInstance
              · skip
                obtain ⟨b12, rfl, e2, rfl⟩ := hC
                replace e2 := e2.symm; subst e2
                refine dp_e1 rfl opT_alloc rfl rfl rfl rfl fun _ _ _ _ hC => ?_
                obtain ⟨b9, rfl, e2, rfl⟩ := hC
                replace e2 := e2.symm; subst e2
                have hO := hO.mono (sw67.trans sw68)
                have hM := hM.mono sw68
                obtain ⟨o1, o2, rfl, _, _⟩ := id hO
                obtain ⟨x1, x2, rfl, _, _⟩ := id hX
                refine dp_ed1 rfl (opT_storeW rfl rfl rfl rfl (belt_one hO)) rfl rfl rfl rfl <| dp_p rfl (fun _ _ => opT_assign rfl) rfl rfl rfl <| dp_ed1 rfl (opT_storeW rfl rfl rfl rfl (belt_one hX)) rfl rfl rfl rfl <| dp_ed1 rfl (opT_storeW rfl rfl rfl rfl (one_trayL left)) rfl rfl rfl rfl <| dp_done1 ?_
                refine en_then <| ?_
                exact en_met (b9, b11, b12, o1, o2, x1, x2, vm, hw68) ⟨(sw1.trans (sw67.trans sw68)), hO, hX, hM⟩ ⟨rfl, rfl, rfl, rfl, rfl, rfl, rfl, rfl, trivial⟩ (.refl _) inferInstance
            · skip
              obtain ⟨b9, rfl, e2, rfl⟩ := hC
              replace e2 := e2.symm; subst e2
              refine dp_alts [5, 9] rfl (by simp) rfl rfl ⟨alt_op rfl (opT_call rfl rfl rfl (its_ct hw67 _ b (hb.mono (sw1.trans sw67)) hsm)) rfl rfl fun vx hw72 _ sw72 hC => ?_, alt_op rfl opT_alloc rfl rfl fun _ _ _ _ hC => ?_, trivial⟩
              · skip
                obtain ⟨_, ⟨hX, rfl⟩, rfl⟩ := hC
                refine dp_norm1 ?_
                refine dp_e1 rfl opT_alloc rfl rfl rfl rfl fun _ _ _ _ hC => ?_
                obtain ⟨b12, rfl, e2, rfl⟩ := hC
                replace e2 := e2.symm; subst e2
                have hO := hO.mono (sw67.trans sw72)
                have hM := hM.mono sw72
                obtain ⟨o1, o2, rfl, _, _⟩ := id hO
                obtain ⟨x1, x2, rfl, _, _⟩ := id hX
                refine dp_ed1 rfl (opT_storeW rfl rfl rfl rfl (belt_one hO)) rfl rfl rfl rfl <| dp_p rfl (fun _ _ => opT_assign rfl) rfl rfl rfl <| dp_ed1 rfl (opT_storeW rfl rfl rfl rfl (belt_one hX)) rfl rfl rfl rfl <| dp_ed1 rfl (opT_storeW rfl rfl rfl rfl (one_trayL left)) rfl rfl rfl rfl <| dp_done1 ?_
                refine en_then <| ?_
                exact en_met (b9, b11, b12, o1, o2, x1, x2, vm, hw72) ⟨(sw1.trans (sw67.trans sw72)), hO, hX, hM⟩ ⟨rfl, rfl, rfl, rfl, rfl, rfl, rfl, rfl, trivial⟩ (.refl _) inferInstance
              · skip
                obtain ⟨b12, rfl, e2, rfl⟩ := hC
                replace e2 := e2.symm; subst e2
                refine dp_e1 rfl (opT_call rfl rfl rfl (its_ct hw67 _ b (hb.mono (sw1.trans sw67)) hsm)) rfl rfl rfl rfl fun vx hw74 _ sw74 hC => ?_
                obtain ⟨_, ⟨hX, rfl⟩, rfl⟩ := hC
                refine dp_norm1 ?_
                have hO := hO.mono (sw67.trans sw74)
                have hM := hM.mono sw74
                obtain ⟨o1, o2, rfl, _, _⟩ := id hO
                obtain ⟨x1, x2, rfl, _, _⟩ := id hX
                refine dp_ed1 rfl (opT_storeW rfl rfl rfl rfl (belt_one hO)) rfl rfl rfl rfl <| dp_p rfl (fun _ _ => opT_assign rfl) rfl rfl rfl <| dp_ed1 rfl (opT_storeW rfl rfl rfl rfl (belt_one hX)) rfl rfl rfl rfl <| dp_ed1 rfl (opT_storeW rfl rfl rfl rfl (one_trayL left)) rfl rfl rfl rfl <| dp_done1 ?_
                refine en_then <| ?_
                exact en_met (b9, b11, b12, o1, o2, x1, x2, vm, hw74) ⟨(sw1.trans (sw67.trans sw74)), hO, hX, hM⟩ ⟨rfl, rfl, rfl, rfl, rfl, rfl, rfl, rfl, trivial⟩ (.refl _) inferInstance
            · skip
              obtain ⟨b12, rfl, e2, rfl⟩ := hC
              replace e2 := e2.symm; subst e2
              refine dp_alts [5, 7] rfl (by simp) rfl rfl ⟨alt_op rfl (opT_call rfl rfl rfl (its_ct hw67 _ b (hb.mono (sw1.trans sw67)) hsm)) rfl rfl fun vx hw75 _ sw75 hC => ?_, alt_op rfl opT_alloc rfl rfl fun _ _ _ _ hC => ?_, trivial⟩
              · skip
                obtain ⟨_, ⟨hX, rfl⟩, rfl⟩ := hC
                refine dp_norm1 ?_
                refine dp_e1 rfl opT_alloc rfl rfl rfl rfl fun _ _ _ _ hC => ?_
                obtain ⟨b9, rfl, e2, rfl⟩ := hC
                replace e2 := e2.symm; subst e2
                have hO := hO.mono (sw67.trans sw75)
                have hM := hM.mono sw75
                obtain ⟨o1, o2, rfl, _, _⟩ := id hO
                obtain ⟨x1, x2, rfl, _, _⟩ := id hX
                refine dp_ed1 rfl (opT_storeW rfl rfl rfl rfl (belt_one hO)) rfl rfl rfl rfl <| dp_p rfl (fun _ _ => opT_assign rfl) rfl rfl rfl <| dp_ed1 rfl (opT_storeW rfl rfl rfl rfl (belt_one hX)) rfl rfl rfl rfl <| dp_ed1 rfl (opT_storeW rfl rfl rfl rfl (one_trayL left)) rfl rfl rfl rfl <| dp_done1 ?_
                refine en_then <| ?_
                exact en_met (b9, b11, b12, o1, o2, x1, x2, vm, hw75) ⟨(sw1.trans (sw67.trans sw75)), hO, hX, hM⟩ ⟨rfl, rfl, rfl, rfl, rfl, rfl, rfl, rfl, trivial⟩ (.refl _) inferInstance
              · skip
                obtain ⟨b9, rfl, e2, rfl⟩ := hC
                replace e2 := e2.symm; subst e2
                refine dp_e1 rfl (opT_call rfl rfl rfl (its_ct hw67 _ b (hb.mono (sw1.trans sw67)) hsm)) rfl rfl rfl rfl fun vx hw77 _ sw77 hC => ?_
                obtain ⟨_, ⟨hX, rfl⟩, rfl⟩ := hC
                refine dp_norm1 ?_
                have hO := hO.mono (sw67.trans sw77)
                have hM := hM.mono sw77
                obtain ⟨o1, o2, rfl, _, _⟩ := id hO
                obtain ⟨x1, x2, rfl, _, _⟩ := id hX
                refine dp_ed1 rfl (opT_storeW rfl rfl rfl rfl (belt_one hO)) rfl rfl rfl rfl <| dp_p rfl (fun _ _ => opT_assign rfl) rfl rfl rfl <| dp_ed1 rfl (opT_storeW rfl rfl rfl rfl (belt_one hX)) rfl rfl rfl rfl <| dp_ed1 rfl (opT_storeW rfl rfl rfl rfl (one_trayL left)) rfl rfl rfl rfl <| dp_done1 ?_
                refine en_then <| ?_
                exact en_met (b9, b11, b12, o1, o2, x1, x2, vm, hw77) ⟨(sw1.trans (sw67.trans sw77)), hO, hX, hM⟩ ⟨rfl, rfl, rfl, rfl, rfl, rfl, rfl, rfl, trivial⟩ (.refl _) inferInstance
          · skip
            obtain ⟨b9, rfl, e2, rfl⟩ := hC
            replace e2 := e2.symm; subst e2
            refine dp_alts [3, 9] rfl (by simp) rfl rfl ⟨alt_op rfl (opT_call rfl rfl rfl (copyM_ct hw1 _ l (hs.mono sw1) (by omega))) rfl rfl fun vm hw78 _ sw78 hC => ?_, alt_op rfl opT_alloc rfl rfl fun _ _ _ _ hC => ?_, trivial⟩
            · skip
              obtain ⟨_, ⟨hM, rfl⟩, rfl⟩ := hC
              refine dp_norm1 ?_
              refine dp_alts [5, 9] rfl (by simp) rfl rfl ⟨alt_op rfl (opT_call rfl rfl rfl (its_ct hw78 _ b (hb.mono (sw1.trans sw78)) hsm)) rfl rfl fun vx hw79 _ sw79 hC => ?_, alt_op rfl opT_alloc rfl rfl fun _ _ _ _ hC => ?_, trivial⟩
              · skip
                obtain ⟨_, ⟨hX, rfl⟩, rfl⟩ := hC
                refine dp_norm1 ?_
                refine dp_e1 rfl opT_alloc rfl rfl rfl rfl fun _ _ _ _ hC => ?_
                obtain ⟨b12, rfl, e2, rfl⟩ := hC
                replace e2 := e2.symm; subst e2
                have hO := hO.mono (sw78.trans sw79)
                have hM := hM.mono sw79
                obtain ⟨o1, o2, rfl, _, _⟩ := id hO
                obtain ⟨x1, x2, rfl, _, _⟩ := id hX
                refine dp_ed1 rfl (opT_storeW rfl rfl rfl rfl (belt_one hO)) rfl rfl rfl rfl <| dp_p rfl (fun _ _ => opT_assign rfl) rfl rfl rfl <| dp_ed1 rfl (opT_storeW rfl rfl rfl rfl (belt_one hX)) rfl rfl rfl rfl <| dp_ed1 rfl (opT_storeW rfl rfl rfl rfl (one_trayL left)) rfl rfl rfl rfl <| dp_done1 ?_
                refine en_then <| ?_
                exact en_met (b9, b11, b12, o1, o2, x1, x2, vm, hw79) ⟨(sw1.trans (sw78.trans sw79)), hO, hX, hM⟩ ⟨rfl, rfl, rfl, rfl, rfl, rfl, rfl, rfl, trivial⟩ (.refl _) inferInstance
              · skip
                obtain ⟨b12, rfl, e2, rfl⟩ := hC
                replace e2 := e2.symm; subst e2
                refine dp_e1 rfl (opT_call rfl rfl rfl (its_ct hw78 _ b (hb.mono (sw1.trans sw78)) hsm)) rfl rfl rfl rfl fun vx hw81 _ sw81 hC => ?_
                obtain ⟨_, ⟨hX, rfl⟩, rfl⟩ := hC
                refine dp_norm1 ?_
                have hO := hO.mono (sw78.trans sw81)
                have hM := hM.mono sw81
                obtain ⟨o1, o2, rfl, _, _⟩ := id hO
                obtain ⟨x1, x2, rfl, _, _⟩ := id hX
                refine dp_ed1 rfl (opT_storeW rfl rfl rfl rfl (belt_one hO)) rfl rfl rfl rfl <| dp_p rfl (fun _ _ => opT_assign rfl) rfl rfl rfl <| dp_ed1 rfl (opT_storeW rfl rfl rfl rfl (belt_one hX)) rfl rfl rfl rfl <| dp_ed1 rfl (opT_storeW rfl rfl rfl rfl (one_trayL left)) rfl rfl rfl rfl <| dp_done1 ?_
                refine en_then <| ?_
                exact en_met (b9, b11, b12, o1, o2, x1, x2, vm, hw81) ⟨(sw1.trans (sw78.trans sw81)), hO, hX, hM⟩ ⟨rfl, rfl, rfl, rfl, rfl, rfl, rfl, rfl, trivial⟩ (.refl _) inferInstance
            · skip
              obtain ⟨b12, rfl, e2, rfl⟩ := hC
              replace e2 := e2.symm; subst e2
              refine dp_e1 rfl (opT_call rfl rfl rfl (copyM_ct hw1 _ l (hs.mono sw1) (by omega))) rfl rfl rfl rfl fun vm hw82 _ sw82 hC => ?_
              obtain ⟨_, ⟨hM, rfl⟩, rfl⟩ := hC
              refine dp_norm1 ?_
              refine dp_e1 rfl (opT_call rfl rfl rfl (its_ct hw82 _ b (hb.mono (sw1.trans sw82)) hsm)) rfl rfl rfl rfl fun vx hw83 _ sw83 hC => ?_
              obtain ⟨_, ⟨hX, rfl⟩, rfl⟩ := hC
              refine dp_norm1 ?_
              have hO := hO.mono (sw82.trans sw83)
              have hM := hM.mono sw83
              obtain ⟨o1, o2, rfl, _, _⟩ := id hO
              obtain ⟨x1, x2, rfl, _, _⟩ := id hX
              refine dp_ed1 rfl (opT_storeW rfl rfl rfl rfl (belt_one hO)) rfl rfl rfl rfl <| dp_p rfl (fun _ _ => opT_assign rfl) rfl rfl rfl <| dp_ed1 rfl (opT_storeW rfl rfl rfl rfl (belt_one hX)) rfl rfl rfl rfl <| dp_ed1 rfl (opT_storeW rfl rfl rfl rfl (one_trayL left)) rfl rfl rfl rfl <| dp_done1 ?_
              refine en_then <| ?_
              exact en_met (b9, b11, b12, o1, o2, x1, x2, vm, hw83) ⟨(sw1.trans (sw82.trans sw83)), hO, hX, hM⟩ ⟨rfl, rfl, rfl, rfl, rfl, rfl, rfl, rfl, trivial⟩ (.refl _) inferInstance
          · skip
            obtain ⟨b12, rfl, e2, rfl⟩ := hC
            replace e2 := e2.symm; subst e2
            refine dp_alts [3, 7] rfl (by simp) rfl rfl ⟨alt_op rfl (opT_call rfl rfl rfl (copyM_ct hw1 _ l (hs.mono sw1) (by omega))) rfl rfl fun vm hw84 _ sw84 hC => ?_, alt_op rfl opT_alloc rfl rfl fun _ _ _ _ hC => ?_, trivial⟩
            · skip
              obtain ⟨_, ⟨hM, rfl⟩, rfl⟩ := hC
              refine dp_norm1 ?_
              refine dp_alts [5, 7] rfl (by simp) rfl rfl ⟨alt_op rfl (opT_call rfl rfl rfl (its_ct hw84 _ b (hb.mono (sw1.trans sw84)) hsm)) rfl rfl fun vx hw85 _ sw85 hC => ?_, alt_op rfl opT_alloc rfl rfl fun _ _ _ _ hC => ?_, trivial⟩
              · skip
                obtain ⟨_, ⟨hX, rfl⟩, rfl⟩ := hC
                refine dp_norm1 ?_
                refine dp_e1 rfl opT_alloc rfl rfl rfl rfl fun _ _ _ _ hC => ?_
                obtain ⟨b9, rfl, e2, rfl⟩ := hC
                replace e2 := e2.symm; subst e2
                have hO := hO.mono (sw84.trans sw85)
                have hM := hM.mono sw85
                obtain ⟨o1, o2, rfl, _, _⟩ := id hO
                obtain ⟨x1, x2, rfl, _, _⟩ := id hX
                refine dp_ed1 rfl (opT_storeW rfl rfl rfl rfl (belt_one hO)) rfl rfl rfl rfl <| dp_p rfl (fun _ _ => opT_assign rfl) rfl rfl rfl <| dp_ed1 rfl (opT_storeW rfl rfl rfl rfl (belt_one hX)) rfl rfl rfl rfl <| dp_ed1 rfl (opT_storeW rfl rfl rfl rfl (one_trayL left)) rfl rfl rfl rfl <| dp_done1 ?_
                refine en_then <| ?_
                exact en_met (b9, b11, b12, o1, o2, x1, x2, vm, hw85) ⟨(sw1.trans (sw84.trans sw85)), hO, hX, hM⟩ ⟨rfl, rfl, rfl, rfl, rfl, rfl, rfl, rfl, trivial⟩ (.refl _) inferInstance
              · skip
                obtain ⟨b9, rfl, e2, rfl⟩ := hC
                replace e2 := e2.symm; subst e2
                refine dp_e1 rfl (opT_call rfl rfl rfl (its_ct hw84 _ b (hb.mono (sw1.trans sw84)) hsm)) rfl rfl rfl rfl fun vx hw87 _ sw87 hC => ?_
                obtain ⟨_, ⟨hX, rfl⟩, rfl⟩ := hC
                refine dp_norm1 ?_
                have hO := hO.mono (sw84.trans sw87)
                have hM := hM.mono sw87
                obtain ⟨o1, o2, rfl, _, _⟩ := id hO
                obtain ⟨x1, x2, rfl, _, _⟩ := id hX
                refine dp_ed1 rfl (opT_storeW rfl rfl rfl rfl (belt_one hO)) rfl rfl rfl rfl <| dp_p rfl (fun _ _ => opT_assign rfl) rfl rfl rfl <| dp_ed1 rfl (opT_storeW rfl rfl rfl rfl (belt_one hX)) rfl rfl rfl rfl <| dp_ed1 rfl (opT_storeW rfl rfl rfl rfl (one_trayL left)) rfl rfl rfl rfl <| dp_done1 ?_
                refine en_then <| ?_
                exact en_met (b9, b11, b12, o1, o2, x1, x2, vm, hw87) ⟨(sw1.trans (sw84.trans sw87)), hO, hX, hM⟩ ⟨rfl, rfl, rfl, rfl, rfl, rfl, rfl, rfl, trivial⟩ (.refl _) inferInstance
            · skip
              obtain ⟨b9, rfl, e2, rfl⟩ := hC
              replace e2 := e2.symm; subst e2
              refine dp_e1 rfl (opT_call rfl rfl rfl (copyM_ct hw1 _ l (hs.mono sw1) (by omega))) rfl rfl rfl rfl fun vm hw88 _ sw88 hC => ?_
              obtain ⟨_, ⟨hM, rfl⟩, rfl⟩ := hC
              refine dp_norm1 ?_
              refine dp_e1 rfl (opT_call rfl rfl rfl (its_ct hw88 _ b (hb.mono (sw1.trans sw88)) hsm)) rfl rfl rfl rfl fun vx hw89 _ sw89 hC => ?_
              obtain ⟨_, ⟨hX, rfl⟩, rfl⟩ := hC
              refine dp_norm1 ?_
              have hO := hO.mono (sw88.trans sw89)
              have hM := hM.mono sw89
              obtain ⟨o1, o2, rfl, _, _⟩ := id hO
              obtain ⟨x1, x2, rfl, _, _⟩ := id hX
              refine dp_ed1 rfl (opT_storeW rfl rfl rfl rfl (belt_one hO)) rfl rfl rfl rfl <| dp_p rfl (fun _ _ => opT_assign rfl) rfl rfl rfl <| dp_ed1 rfl (opT_storeW rfl rfl rfl rfl (belt_one hX)) rfl rfl rfl rfl <| dp_ed1 rfl (opT_storeW rfl rfl rfl rfl (one_trayL left)) rfl rfl rfl rfl <| dp_done1 ?_
              refine en_then <| ?_
              exact en_met (b9, b11, b12, o1, o2, x1, x2, vm, hw89) ⟨(sw1.trans (sw88.trans sw89)), hO, hX, hM⟩ ⟨rfl, rfl, rfl, rfl, rfl, rfl, rfl, rfl, trivial⟩ (.refl _) inferInstance
        · skip
          obtain ⟨b12, rfl, e2, rfl⟩ := hC
          replace e2 := e2.symm; subst e2
          refine dp_alts [3, 7, 8] rfl (by simp) rfl rfl ⟨alt_op rfl (opT_call rfl rfl rfl (copyM_ct hw1 _ l (hs.mono sw1) (by omega))) rfl rfl fun vm hw90 _ sw90 hC => ?_, alt_op rfl opT_alloc rfl rfl fun _ _ _ _ hC => ?_, alt_op rfl opT_alloc rfl rfl fun _ _ _ _ hC => ?_, trivial⟩
          · skip
            obtain ⟨_, ⟨hM, rfl⟩, rfl⟩ := hC
            refine dp_norm1 ?_
            refine dp_alts [5, 7, 8] rfl (by simp) rfl rfl ⟨alt_op rfl (opT_call rfl rfl rfl (its_ct hw90 _ b (hb.mono (sw1.trans sw90)) hsm)) rfl rfl fun vx hw91 _ sw91 hC => ?_, alt_op rfl opT_alloc rfl rfl fun _ _ _ _ hC => ?_, alt_op rfl opT_alloc rfl rfl fun _ _ _ _ hC => ?_, trivial⟩
            · skip
              obtain ⟨_, ⟨hX, rfl⟩, rfl⟩ := hC
              refine dp_norm1 ?_
              refine dp_alts [7, 8] rfl (by simp) rfl rfl ⟨alt_op rfl opT_alloc rfl rfl fun _ _ _ _ hC => ?_, alt_op rfl opT_alloc rfl rfl fun _ _ _ _ hC => ?_, trivial⟩
              · skip
                obtain ⟨b9, rfl, e2, rfl⟩ := hC
                replace e2 := e2.symm; subst e2
                refine dp_e1 rfl opT_alloc rfl rfl rfl rfl fun _ _ _ _ hC => ?_
                obtain ⟨b11, rfl, e2, rfl⟩ := hC
                replace e2 := e2.symm; subst e2
                have hO := hO.mono (sw90.trans sw91)
                have hM := hM.mono sw91
                obtain ⟨o1, o2, rfl, _, _⟩ := id hO
                obtain ⟨x1, x2, rfl, _, _⟩ := id hX
                refine dp_ed1 rfl (opT_storeW rfl rfl rfl rfl (belt_one hO)) rfl rfl rfl rfl <| dp_p rfl (fun _ _ => opT_assign rfl) rfl rfl rfl <| dp_ed1 rfl (opT_storeW rfl rfl rfl rfl (belt_one hX)) rfl rfl rfl rfl <| dp_ed1 rfl (opT_storeW rfl rfl rfl rfl (one_trayL left)) rfl rfl rfl rfl <| dp_done1 ?_
                refine en_then <| ?_
                exact en_met (b9, b11, b12, o1, o2, x1, x2, vm, hw91) ⟨(sw1.trans (sw90.trans sw91)), hO, hX, hM⟩ ⟨rfl, rfl, rfl, rfl, rfl, rfl, rfl, rfl, trivial⟩ (.refl _) inferInstance
              · skip
                obtain ⟨b11, rfl, e2, rfl⟩ := hC
                replace e2 := e2.symm; subst e2
                refine dp_e1 rfl opT_alloc rfl rfl rfl rfl fun _ _ _ _ hC => ?_
                obtain ⟨b9, rfl, e2, rfl⟩ := hC
                replace e2 := e2.symm; subst e2
                have hO := hO.mono (sw90.trans sw91)
                have hM := hM.mono sw91
                obtain ⟨o1, o2, rfl, _, _⟩ := id hO
                obtain ⟨x1, x2, rfl, _, _⟩ := id hX
                refine dp_ed1 rfl (opT_storeW rfl rfl rfl rfl (belt_one hO)) rfl rfl rfl rfl <| dp_p rfl (fun _ _ => opT_assign rfl) rfl rfl rfl <| dp_ed1 rfl (opT_storeW rfl rfl rfl rfl (belt_one hX)) rfl rfl rfl rfl <| dp_ed1 rfl (opT_storeW rfl rfl rfl rfl (one_trayL left)) rfl rfl rfl rfl <| dp_done1 ?_
                refine en_then <| ?_
                exact en_met (b9, b11, b12, o1, o2, x1, x2, vm, hw91) ⟨(sw1.trans (sw90.trans sw91)), hO, hX, hM⟩ ⟨rfl, rfl, rfl, rfl, rfl, rfl, rfl, rfl, trivial⟩ (.refl _) inferInstance
            · skip
              obtain ⟨b9, rfl, e2, rfl⟩ := hC
              replace e2 := e2.symm; subst e2
              refine dp_alts [5, 8] rfl (by simp) rfl rfl ⟨alt_op rfl (opT_call rfl rfl rfl (its_ct hw90 _ b (hb.mono (sw1.trans sw90)) hsm)) rfl rfl fun vx hw95 _ sw95 hC => ?_, alt_op rfl opT_alloc rfl rfl fun _ _ _ _ hC => ?_, trivial⟩
              · skip
                obtain ⟨_, ⟨hX, rfl⟩, rfl⟩ := hC
                refine dp_norm1 ?_
                refine dp_e1 rfl opT_alloc rfl rfl rfl rfl fun _ _ _ _ hC => ?_
                obtain ⟨b11, rfl, e2, rfl⟩ := hC
                replace e2 := e2.symm; subst e2
                have hO := hO.mono (sw90.trans sw95)
                have hM := hM.mono sw95
                obtain ⟨o1, o2, rfl, _, _⟩ := id hO
                obtain ⟨x1, x2, rfl, _, _⟩ := id hX
                refine dp_ed1 rfl (opT_storeW rfl rfl rfl rfl (belt_one hO)) rfl rfl rfl rfl <| dp_p rfl (fun _ _ => opT_assign rfl) rfl rfl rfl <| dp_ed1 rfl (opT_storeW rfl rfl rfl rfl (belt_one hX)) rfl rfl rfl rfl <| dp_ed1 rfl (opT_storeW rfl rfl rfl rfl (one_trayL left)) rfl rfl rfl rfl <| dp_done1 ?_
                refine en_then <| ?_
                exact en_met (b9, b11, b12, o1, o2, x1, x2, vm, hw95) ⟨(sw1.trans (sw90.trans sw95)), hO, hX, hM⟩ ⟨rfl, rfl, rfl, rfl, rfl, rfl, rfl, rfl, trivial⟩ (.refl _) inferInstance
              · skip
                obtain ⟨b11, rfl, e2, rfl⟩ := hC
                replace e2 := e2.symm; subst e2
                refine dp_e1 rfl (opT_call rfl rfl rfl (its_ct hw90 _ b (hb.mono (sw1.trans sw90)) hsm)) rfl rfl rfl rfl fun vx hw97 _ sw97 hC => ?_
                obtain ⟨_, ⟨hX, rfl⟩, rfl⟩ := hC
                refine dp_norm1 ?_
                have hO := hO.mono (sw90.trans sw97)
                have hM := hM.mono sw97
                obtain ⟨o1, o2, rfl, _, _⟩ := id hO
                obtain ⟨x1, x2, rfl, _, _⟩ := id hX
                refine dp_ed1 rfl (opT_storeW rfl rfl rfl rfl (belt_one hO)) rfl rfl rfl rfl <| dp_p rfl (fun _ _ => opT_assign rfl) rfl rfl rfl <| dp_ed1 rfl (opT_storeW rfl rfl rfl rfl (belt_one hX)) rfl rfl rfl rfl <| dp_ed1 rfl (opT_storeW rfl rfl rfl rfl (one_trayL left)) rfl rfl rfl rfl <| dp_done1 ?_
                refine en_then <| ?_
                exact en_met (b9, b11, b12, o1, o2, x1, x2, vm, hw97) ⟨(sw1.trans (sw90.trans sw97)), hO, hX, hM⟩ ⟨rfl, rfl, rfl, rfl, rfl, rfl, rfl, rfl, trivial⟩ (.refl _) inferInstance
            · skip
              obtain ⟨b11, rfl, e2, rfl⟩ := hC
              replace e2 := e2.symm; subst e2
              refine dp_alts [5, 7] rfl (by simp) rfl rfl ⟨alt_op rfl (opT_call rfl rfl rfl (its_ct hw90 _ b (hb.mono (sw1.trans sw90)) hsm)) rfl rfl fun vx hw98 _ sw98 hC => ?_, alt_op rfl opT_alloc rfl rfl fun _ _ _ _ hC => ?_, trivial⟩
              · skip
                obtain ⟨_, ⟨hX, rfl⟩, rfl⟩ := hC
                refine dp_norm1 ?_
                refine dp_e1 rfl opT_alloc rfl rfl rfl rfl fun _ _ _ _ hC => ?_
                obtain ⟨b9, rfl, e2, rfl⟩ := hC
                replace e2 := e2.symm; subst e2
                have hO := hO.mono (sw90.trans sw98)
                have hM := hM.mono sw98
                obtain ⟨o1, o2, rfl, _, _⟩ := id hO
                obtain ⟨x1, x2, rfl, _, _⟩ := id hX
                refine dp_ed1 rfl (opT_storeW rfl rfl rfl rfl (belt_one hO)) rfl rfl rfl rfl <| dp_p rfl (fun _ _ => opT_assign rfl) rfl rfl rfl <| dp_ed1 rfl (opT_storeW rfl rfl rfl rfl (belt_one hX)) rfl rfl rfl rfl <| dp_ed1 rfl (opT_storeW rfl rfl rfl rfl (one_trayL left)) rfl rfl rfl rfl <| dp_done1 ?_
                refine en_then <| ?_
                exact en_met (b9, b11, b12, o1, o2, x1, x2, vm, hw98) ⟨(sw1.trans (sw90.trans sw98)), hO, hX, hM⟩ ⟨rfl, rfl, rfl, rfl, rfl, rfl, rfl, rfl, trivial⟩ (.refl _) inferInstance
              · skip
                obtain ⟨b9, rfl, e2, rfl⟩ := hC
                replace e2 := e2.symm; subst e2
                refine dp_e1 rfl (opT_call rfl rfl rfl (its_ct hw90 _ b (hb.mono (sw1.trans sw90)) hsm)) rfl rfl rfl rfl fun vx hw100 _ sw100 hC => ?_
                obtain ⟨_, ⟨hX, rfl⟩, rfl⟩ := hC
                refine dp_norm1 ?_
                have hO := hO.mono (sw90.trans sw100)
                have hM := hM.mono sw100
                obtain ⟨o1, o2, rfl, _, _⟩ := id hO
                obtain ⟨x1, x2, rfl, _, _⟩ := id hX
                refine dp_ed1 rfl (opT_storeW rfl rfl rfl rfl (belt_one hO)) rfl rfl rfl rfl <| dp_p rfl (fun _ _ => opT_assign rfl) rfl rfl rfl <| dp_ed1 rfl (opT_storeW rfl rfl rfl rfl (belt_one hX)) rfl rfl rfl rfl <| dp_ed1 rfl (opT_storeW rfl rfl rfl rfl (one_trayL left)) rfl rfl rfl rfl <| dp_done1 ?_
                refine en_then <| ?_
                exact en_met (b9, b11, b12, o1, o2, x1, x2, vm, hw100) ⟨(sw1.trans (sw90.trans sw100)), hO, hX, hM⟩ ⟨rfl, rfl, rfl, rfl, rfl, rfl, rfl, rfl, trivial⟩ (.refl _) inferInstance
          · skip
            obtain ⟨b9, rfl, e2, rfl⟩ := hC
            replace e2 := e2.symm; subst e2
            refine dp_alts [3, 8] rfl (by simp) rfl rfl ⟨alt_op rfl (opT_call rfl rfl rfl (copyM_ct hw1 _ l (hs.mono sw1) (by omega))) rfl rfl fun vm hw101 _ sw101 hC => ?_, alt_op rfl opT_alloc rfl rfl fun _ _ _ _ hC => ?_, trivial⟩
            · skip
              obtain ⟨_, ⟨hM, rfl⟩, rfl⟩ := hC
              refine dp_norm1 ?_
              refine dp_alts [5, 8] rfl (by simp) rfl rfl ⟨alt_op rfl (opT_call rfl rfl rfl (its_ct hw101 _ b (hb.mono (sw1.trans sw101)) hsm)) rfl rfl fun vx hw102 _ sw102 hC => ?_, alt_op rfl opT_alloc rfl rfl fun _ _ _ _ hC => ?_, trivial⟩
              · skip
                obtain ⟨_, ⟨hX, rfl⟩, rfl⟩ := hC
                refine dp_norm1 ?_
                refine dp_e1 rfl opT_alloc rfl rfl rfl rfl fun _ _ _ _ hC => ?_
                obtain ⟨b11, rfl, e2, rfl⟩ := hC
                replace e2 := e2.symm; subst e2
                have hO := hO.mono (sw101.trans sw102)
                have hM := hM.mono sw102
                obtain ⟨o1, o2, rfl, _, _⟩ := id hO
                obtain ⟨x1, x2, rfl, _, _⟩ := id hX
                refine dp_ed1 rfl (opT_storeW rfl rfl rfl rfl (belt_one hO)) rfl rfl rfl rfl <| dp_p rfl (fun _ _ => opT_assign rfl) rfl rfl rfl <| dp_ed1 rfl (opT_storeW rfl rfl rfl rfl (belt_one hX)) rfl rfl rfl rfl <| dp_ed1 rfl (opT_storeW rfl rfl rfl rfl (one_trayL left)) rfl rfl rfl rfl <| dp_done1 ?_
                refine en_then <| ?_
                exact en_met (b9, b11, b12, o1, o2, x1, x2, vm, hw102) ⟨(sw1.trans (sw101.trans sw102)), hO, hX, hM⟩ ⟨rfl, rfl, rfl, rfl, rfl, rfl, rfl, rfl, trivial⟩ (.refl _) inferInstance
              · skip
                obtain ⟨b11, rfl, e2, rfl⟩ := hC
                replace e2 := e2.symm; subst e2
                refine dp_e1 rfl (opT_call rfl rfl rfl (its_ct hw101 _ b (hb.mono (sw1.trans sw101)) hsm)) rfl rfl rfl rfl fun vx hw104 _ sw104 hC => ?_
                obtain ⟨_, ⟨hX, rfl⟩, rfl⟩ := hC
                refine dp_norm1 ?_
                have hO := hO.mono (sw101.trans sw104)
                have hM := hM.mono sw104
                obtain ⟨o1, o2, rfl, _, _⟩ := id hO
                obtain ⟨x1, x2, rfl, _, _⟩ := id hX
                refine dp_ed1 rfl (opT_storeW rfl rfl rfl rfl (belt_one hO)) rfl rfl rfl rfl <| dp_p rfl (fun _ _ => opT_assign rfl) rfl rfl rfl <| dp_ed1 rfl (opT_storeW rfl rfl rfl rfl (belt_one hX)) rfl rfl rfl rfl <| dp_ed1 rfl (opT_storeW rfl rfl rfl rfl (one_trayL left)) rfl rfl rfl rfl <| dp_done1 ?_
                refine en_then <| ?_
                exact en_met (b9, b11, b12, o1, o2, x1, x2, vm, hw104) ⟨(sw1.trans (sw101.trans sw104)), hO, hX, hM⟩ ⟨rfl, rfl, rfl, rfl, rfl, rfl, rfl, rfl, trivial⟩ (.refl _) inferInstance
            · skip
              obtain ⟨b11, rfl, e2, rfl⟩ := hC
              replace e2 := e2.symm; subst e2
              refine dp_e1 rfl (opT_call rfl rfl rfl (copyM_ct hw1 _ l (hs.mono sw1) (by omega))) rfl rfl rfl rfl fun vm hw105 _ sw105 hC => ?_
              obtain ⟨_, ⟨hM, rfl⟩, rfl⟩ := hC
              refine dp_norm1 ?_
              refine dp_e1 rfl (opT_call rfl rfl rfl (its_ct hw105 _ b (hb.mono (sw1.trans sw105)) hsm)) rfl rfl rfl rfl fun vx hw106 _ sw106 hC => ?_
              obtain ⟨_, ⟨hX, rfl⟩, rfl⟩ := hC
              refine dp_norm1 ?_
              have hO := hO.mono (sw105.trans sw106)
              have hM := hM.mono sw106
              obtain ⟨o1, o2, rfl, _, _⟩ := id hO
              obtain ⟨x1, x2, rfl, _, _⟩ := id hX
              refine dp_ed1 rfl (opT_storeW rfl rfl rfl rfl (belt_one hO)) rfl rfl rfl rfl <| dp_p rfl (fun _ _ => opT_assign rfl) rfl rfl rfl <| dp_ed1 rfl (opT_storeW rfl rfl rfl rfl (belt_one hX)) rfl rfl rfl rfl <| dp_ed1 rfl (opT_storeW rfl rfl rfl rfl (one_trayL left)) rfl rfl rfl rfl <| dp_done1 ?_
              refine en_then <| ?_
              exact en_met (b9, b11, b12, o1, o2, x1, x2, vm, hw106) ⟨(sw1.trans (sw105.trans sw106)), hO, hX, hM⟩ ⟨rfl, rfl, rfl, rfl, rfl, rfl, rfl, rfl, trivial⟩ (.refl _) inferInstance
          · skip
            obtain ⟨b11, rfl, e2, rfl⟩ := hC
            replace e2 := e2.symm; subst e2
            refine dp_alts [3, 7] rfl (by simp) rfl rfl ⟨alt_op rfl (opT_call rfl rfl rfl (copyM_ct hw1 _ l (hs.mono sw1) (by omega))) rfl rfl fun vm hw107 _ sw107 hC => ?_, alt_op rfl opT_alloc rfl rfl fun _ _ _ _ hC => ?_, trivial⟩
            · skip
              obtain ⟨_, ⟨hM, rfl⟩, rfl⟩ := hC
              refine dp_norm1 ?_
              refine dp_alts [5, 7] rfl (by simp) rfl rfl ⟨alt_op rfl (opT_call rfl rfl rfl (its_ct hw107 _ b (hb.mono (sw1.trans sw107)) hsm)) rfl rfl fun vx hw108 _ sw108 hC => ?_, alt_op rfl opT_alloc rfl rfl fun _ _ _ _ hC => ?_, trivial⟩
              · skip
                obtain ⟨_, ⟨hX, rfl⟩, rfl⟩ := hC
                refine dp_norm1 ?_
                refine dp_e1 rfl opT_alloc rfl rfl rfl rfl fun _ _ _ _ hC => ?_
                obtain ⟨b9, rfl, e2, rfl⟩ := hC
                replace e2 := e2.symm; subst e2
                have hO := hO.mono (sw107.trans sw108)
                have hM := hM.mono sw108
                obtain ⟨o1, o2, rfl, _, _⟩ := id hO
                obtain ⟨x1, x2, rfl, _, _⟩ := id hX
                refine dp_ed1 rfl (opT_storeW rfl rfl rfl rfl (belt_one hO)) rfl rfl rfl rfl <| dp_p rfl (fun _ _ => opT_assign rfl) rfl rfl rfl <| dp_ed1 rfl (opT_storeW rfl rfl rfl rfl (belt_one hX)) rfl rfl rfl rfl <| dp_ed1 rfl (opT_storeW rfl rfl rfl rfl (one_trayL left)) rfl rfl rfl rfl <| dp_done1 ?_
                refine en_then <| ?_
                exact en_met (b9, b11, b12, o1, o2, x1, x2, vm, hw108) ⟨(sw1.trans (sw107.trans sw108)), hO, hX, hM⟩ ⟨rfl, rfl, rfl, rfl, rfl, rfl, rfl, rfl, trivial⟩ (.refl _) inferInstance
              · skip
                obtain ⟨b9, rfl, e2, rfl⟩ := hC
                replace e2 := e2.symm; subst e2
                refine dp_e1 rfl (opT_call rfl rfl rfl (its_ct hw107 _ b (hb.mono (sw1.trans sw107)) hsm)) rfl rfl rfl rfl fun vx hw110 _ sw110 hC => ?_
                obtain ⟨_, ⟨hX, rfl⟩, rfl⟩ := hC
                refine dp_norm1 ?_
                have hO := hO.mono (sw107.trans sw110)
                have hM := hM.mono sw110
                obtain ⟨o1, o2, rfl, _, _⟩ := id hO
                obtain ⟨x1, x2, rfl, _, _⟩ := id hX
                refine dp_ed1 rfl (opT_storeW rfl rfl rfl rfl (belt_one hO)) rfl rfl rfl rfl <| dp_p rfl (fun _ _ => opT_assign rfl) rfl rfl rfl <| dp_ed1 rfl (opT_storeW rfl rfl rfl rfl (belt_one hX)) rfl rfl rfl rfl <| dp_ed1 rfl (opT_storeW rfl rfl rfl rfl (one_trayL left)) rfl rfl rfl rfl <| dp_done1 ?_
                refine en_then <| ?_
                exact en_met (b9, b11, b12, o1, o2, x1, x2, vm, hw110) ⟨(sw1.trans (sw107.trans sw110)), hO, hX, hM⟩ ⟨rfl, rfl, rfl, rfl, rfl, rfl, rfl, rfl, trivial⟩ (.refl _) inferInstance
            · skip
              obtain ⟨b9, rfl, e2, rfl⟩ := hC
              replace e2 := e2.symm; subst e2
              refine dp_e1 rfl (opT_call rfl rfl rfl (copyM_ct hw1 _ l (hs.mono sw1) (by omega))) rfl rfl rfl rfl fun vm hw111 _ sw111 hC => ?_
              obtain ⟨_, ⟨hM, rfl⟩, rfl⟩ := hC
              refine dp_norm1 ?_
              refine dp_e1 rfl (opT_call rfl rfl rfl (its_ct hw111 _ b (hb.mono (sw1.trans sw111)) hsm)) rfl rfl rfl rfl fun vx hw112 _ sw112 hC => ?_
              obtain ⟨_, ⟨hX, rfl⟩, rfl⟩ := hC
              refine dp_norm1 ?_
              have hO := hO.mono (sw111.trans sw112)
              have hM := hM.mono sw112
              obtain ⟨o1, o2, rfl, _, _⟩ := id hO
              obtain ⟨x1, x2, rfl, _, _⟩ := id hX
              refine dp_ed1 rfl (opT_storeW rfl rfl rfl rfl (belt_one hO)) rfl rfl rfl rfl <| dp_p rfl (fun _ _ => opT_assign rfl) rfl rfl rfl <| dp_ed1 rfl (opT_storeW rfl rfl rfl rfl (belt_one hX)) rfl rfl rfl rfl <| dp_ed1 rfl (opT_storeW rfl rfl rfl rfl (one_trayL left)) rfl rfl rfl rfl <| dp_done1 ?_
              refine en_then <| ?_
              exact en_met (b9, b11, b12, o1, o2, x1, x2, vm, hw112) ⟨(sw1.trans (sw111.trans sw112)), hO, hX, hM⟩ ⟨rfl, rfl, rfl, rfl, rfl, rfl, rfl, rfl, trivial⟩ (.refl _) inferInstance
      · skip
        obtain ⟨b9, rfl, e2, rfl⟩ := hC
        replace e2 := e2.symm; subst e2
        refine dp_alts [1, 8, 9] rfl (by simp) rfl rfl ⟨alt_op rfl (opT_call rfl rfl rfl (cloneF_ct h _ b (hb.mono (.refl _)) hsm)) rfl rfl fun vo hw113 _ sw113 hC => ?_, alt_op rfl opT_alloc rfl rfl fun _ _ _ _ hC => ?_, alt_op rfl opT_alloc rfl rfl fun _ _ _ _ hC => ?_, trivial⟩
        · skip
          obtain ⟨_, ⟨hO, rfl⟩, rfl⟩ := hC
          refine dp_norm1 ?_
          refine dp_alts [3, 8, 9] rfl (by simp) rfl rfl ⟨alt_op rfl (opT_call rfl rfl rfl (copyM_ct hw113 _ l (hs.mono sw113) (by omega))) rfl rfl fun vm hw114 _ sw114 hC => ?_, alt_op rfl opT_alloc rfl rfl fun _ _ _ _ hC => ?_, alt_op rfl opT_alloc rfl rfl fun _ _ _ _ hC => ?_, trivial⟩
          · skip
            obtain ⟨_, ⟨hM, rfl⟩, rfl⟩ := hC
            refine dp_norm1 ?_
            refine dp_alts [5, 8, 9] rfl (by simp) rfl rfl ⟨alt_op rfl (opT_call rfl rfl rfl (its_ct hw114 _ b (hb.mono (sw113.trans sw114)) hsm)) rfl rfl fun vx hw115 _ sw115 hC => ?_, alt_op rfl opT_alloc rfl rfl fun _ _ _ _ hC => ?_, alt_op rfl opT_alloc rfl rfl fun _ _ _ _ hC => ?_, trivial⟩
            · skip
              obtain ⟨_, ⟨hX, rfl⟩, rfl⟩ := hC
              refine dp_norm1 ?_
              refine dp_alts [8, 9] rfl (by simp) rfl rfl ⟨alt_op rfl opT_alloc rfl rfl fun _ _ _ _ hC => ?_, alt_op rfl opT_alloc rfl rfl fun _ _ _ _ hC => ?_, trivial⟩
              · skip
                obtain ⟨b11, rfl, e2, rfl⟩ := hC
                replace e2 := e2.symm; subst e2
                refine dp_e1 rfl opT_alloc rfl rfl rfl rfl fun _ _ _ _ hC => ?_
                obtain ⟨b12, rfl, e2, rfl⟩ := hC
                replace e2 := e2.symm; subst e2
                have hO := hO.mono (sw114.trans sw115)
                have hM := hM.mono sw115
                obtain ⟨o1, o2, rfl, _, _⟩ := id hO
                obtain ⟨x1, x2, rfl, _, _⟩ := id hX
                refine dp_ed1 rfl (opT_storeW rfl rfl rfl rfl (belt_one hO)) rfl rfl rfl rfl <| dp_p rfl (fun _ _ => opT_assign rfl) rfl rfl rfl <| dp_ed1 rfl (opT_storeW rfl rfl rfl rfl (belt_one hX)) rfl rfl rfl rfl <| dp_ed1 rfl (opT_storeW rfl rfl rfl rfl (one_trayL left)) rfl rfl rfl rfl <| dp_done1 ?_
                refine en_then <| ?_
                exact en_met (b9, b11, b12, o1, o2, x1, x2, vm, hw115) ⟨(sw113.trans (sw114.trans sw115)), hO, hX, hM⟩ ⟨rfl, rfl, rfl, rfl, rfl, rfl, rfl, rfl, trivial⟩ (.refl _) inferInstance
              · skip
                obtain ⟨b12, rfl, e2, rfl⟩ := hC
                replace e2 := e2.symm; subst e2
                refine dp_e1 rfl opT_alloc rfl rfl rfl rfl fun _ _ _ _ hC => ?_
                obtain ⟨b11, rfl, e2, rfl⟩ := hC
                replace e2 := e2.symm; subst e2
                have hO := hO.mono (sw114.trans sw115)
                have hM := hM.mono sw115
                obtain ⟨o1, o2, rfl, _, _⟩ := id hO
                obtain ⟨x1, x2, rfl, _, _⟩ := id hX
                refine dp_ed1 rfl (opT_storeW rfl rfl rfl rfl (belt_one hO)) rfl rfl rfl rfl <| dp_p rfl (fun _ _ => opT_assign rfl) rfl rfl rfl <| dp_ed1 rfl (opT_storeW rfl rfl rfl rfl (belt_one hX)) rfl rfl rfl rfl <| dp_ed1 rfl (opT_storeW rfl rfl rfl rfl (one_trayL left)) rfl rfl rfl rfl <| dp_done1 ?_
                refine en_then <| ?_
                exact en_met (b9, b11, b12, o1, o2, x1, x2, vm, hw115) ⟨(sw113.trans (sw114.trans sw115)), hO, hX, hM⟩ ⟨rfl, rfl, rfl, rfl, rfl, rfl, rfl, rfl, trivial⟩ (.refl _) inferInstance
            · skip
              obtain ⟨b11, rfl, e2, rfl⟩ := hC
              replace e2 := e2.symm; subst e2
              refine dp_alts [5, 9] rfl (by simp) rfl rfl ⟨alt_op rfl (opT_call rfl rfl rfl (its_ct hw114 _ b (hb.mono (sw113.trans sw114)) hsm)) rfl rfl fun vx hw119 _ sw119 hC => ?_, alt_op rfl opT_alloc rfl rfl fun _ _ _ _ hC => ?_, trivial⟩
              · skip
                obtain ⟨_, ⟨hX, rfl⟩, rfl⟩ := hC
                refine dp_norm1 ?_
                refine dp_e1 rfl opT_alloc rfl rfl rfl rfl fun _ _ _ _ hC => ?_
                obtain ⟨b12, rfl, e2, rfl⟩ := hC
                replace e2 := e2.symm; subst e2
                have hO := hO.mono (sw114.trans sw119)
                have hM := hM.mono sw119
                obtain ⟨o1, o2, rfl, _, _⟩ := id hO
                obtain ⟨x1, x2, rfl, _, _⟩ := id hX
                refine dp_ed1 rfl (opT_storeW rfl rfl rfl rfl (belt_one hO)) rfl rfl rfl rfl <| dp_p rfl (fun _ _ => opT_assign rfl) rfl rfl rfl <| dp_ed1 rfl (opT_storeW rfl rfl rfl rfl (belt_one hX)) rfl rfl rfl rfl <| dp_ed1 rfl (opT_storeW rfl rfl rfl rfl (one_trayL left)) rfl rfl rfl rfl <| dp_done1 ?_
                refine en_then <| ?_
                exact en_met (b9, b11, b12, o1, o2, x1, x2, vm, hw119) ⟨(sw113.trans (sw114.trans sw119)), hO, hX, hM⟩ ⟨rfl, rfl, rfl, rfl, rfl, rfl, rfl, rfl, trivial⟩ (.refl _) inferInstance
              · skip
                obtain ⟨b12, rfl, e2, rfl⟩ := hC
                replace e2 := e2.symm; subst e2
                refine dp_e1 rfl (opT_call rfl rfl rfl (its_ct hw114 _ b (hb.mono (sw113.trans sw114)) hsm)) rfl rfl rfl rfl fun vx hw121 _ sw121 hC => ?_
                obtain ⟨_, ⟨hX, rfl⟩, rfl⟩ := hC
                refine dp_norm1 ?_
                have hO := hO.mono (sw114.trans sw121)
                have hM := hM.mono sw121
                obtain ⟨o1, o2, rfl, _, _⟩ := id hO
                obtain ⟨x1, x2, rfl, _, _⟩ := id hX
                refine dp_ed1 rfl (opT_storeW rfl rfl rfl rfl (belt_one hO)) rfl rfl rfl rfl <| dp_p rfl (fun _ _ => opT_assign rfl) rfl rfl rfl <| dp_ed1 rfl (opT_storeW rfl rfl rfl rfl (belt_one hX)) rfl rfl rfl rfl <| dp_ed1 rfl (opT_storeW rfl rfl rfl rfl (one_trayL left)) rfl rfl rfl rfl <| dp_done1 ?_
                refine en_then <| ?_
                exact en_met (b9, b11, b12, o1, o2, x1, x2, vm, hw121) ⟨(sw113.trans (sw114.trans sw121)), hO, hX, hM⟩ ⟨rfl, rfl, rfl, rfl, rfl, rfl, rfl, rfl, trivial⟩ (.refl _) inferInstance
            · skip
              obtain ⟨b12, rfl, e2, rfl⟩ := hC
              replace e2 := e2.symm; subst e2
              refine dp_alts [5, 8] rfl (by simp) rfl rfl ⟨alt_op rfl (opT_call rfl rfl rfl (its_ct hw114 _ b (hb.mono (sw113.trans sw114)) hsm)) rfl rfl fun vx hw122 _ sw122 hC => ?_, alt_op rfl opT_alloc rfl rfl fun _ _ _ _ hC => ?_, trivial⟩
              · skip
                obtain ⟨_, ⟨hX, rfl⟩, rfl⟩ := hC
                refine dp_norm1 ?_
                refine dp_e1 rfl opT_alloc rfl rfl rfl rfl fun _ _ _ _ hC => ?_
                obtain ⟨b11, rfl, e2, rfl⟩ := hC
                replace e2 := e2.symm; subst e2
                have hO := hO.mono (sw114.trans sw122)
                have hM := hM.mono sw122
                obtain ⟨o1, o2, rfl, _, _⟩ := id hO
                obtain ⟨x1, x2, rfl, _, _⟩ := id hX
                refine dp_ed1 rfl (opT_storeW rfl rfl rfl rfl (belt_one hO)) rfl rfl rfl rfl <| dp_p rfl (fun _ _ => opT_assign rfl) rfl rfl rfl <| dp_ed1 rfl (opT_storeW rfl rfl rfl rfl (belt_one hX)) rfl rfl rfl rfl <| dp_ed1 rfl (opT_storeW rfl rfl rfl rfl (one_trayL left)) rfl rfl rfl rfl <| dp_done1 ?_
                refine en_then <| ?_
                exact en_met (b9, b11, b12, o1, o2, x1, x2, vm, hw122) ⟨(sw113.trans (sw114.trans sw122)), hO, hX, hM⟩ ⟨rfl, rfl, rfl, rfl, rfl, rfl, rfl, rfl, trivial⟩ (.refl _) inferInstance
              · skip
                obtain ⟨b11, rfl, e2, rfl⟩ := hC
                replace e2 := e2.symm; subst e2
                refine dp_e1 rfl (opT_call rfl rfl rfl (its_ct hw114 _ b (hb.mono (sw113.trans sw114)) hsm)) rfl rfl rfl rfl fun vx hw124 _ sw124 hC => ?_
                obtain ⟨_, ⟨hX, rfl⟩, rfl⟩ := hC
                refine dp_norm1 ?_
                have hO := hO.mono (sw114.trans sw124)
                have hM := hM.mono sw124
                obtain ⟨o1, o2, rfl, _, _⟩ := id hO
                obtain ⟨x1, x2, rfl, _, _⟩ := id hX
                refine dp_ed1 rfl (opT_storeW rfl rfl rfl rfl (belt_one hO)) rfl rfl rfl rfl <| dp_p rfl (fun _ _ => opT_assign rfl) rfl rfl rfl <| dp_ed1 rfl (opT_storeW rfl rfl rfl rfl (belt_one hX)) rfl rfl rfl rfl <| dp_ed1 rfl (opT_storeW rfl rfl rfl rfl (one_trayL left)) rfl rfl rfl rfl <| dp_done1 ?_
                refine en_then <| ?_
                exact en_met (b9, b11, b12, o1, o2, x1, x2, vm, hw124) ⟨(sw113.trans (sw114.trans sw124)), hO, hX, hM⟩ ⟨rfl, rfl, rfl, rfl, rfl, rfl, rfl, rfl, trivial⟩ (.refl _) inferInstance
          · skip
            obtain ⟨b11, rfl, e2, rfl⟩ := hC
            replace e2 := e2.symm; subst e2
            refine dp_alts [3, 9] rfl (by simp) rfl rfl ⟨alt_op rfl (opT_call rfl rfl rfl (copyM_ct hw113 _ l (hs.mono sw113) (by omega))) rfl rfl fun vm hw125 _ sw125 hC => ?_, alt_op rfl opT_alloc rfl rfl fun _ _ _ _ hC => ?_, trivial⟩
            · skip
              obtain ⟨_, ⟨hM, rfl⟩, rfl⟩ := hC
              refine dp_norm1 ?_
              refine dp_alts [5, 9] rfl (by simp) rfl rfl ⟨alt_op rfl (opT_call rfl rfl rfl (its_ct hw125 _ b (hb.mono (sw113.trans sw125)) hsm)) rfl rfl fun vx hw126 _ sw126 hC => ?_, alt_op rfl opT_alloc rfl rfl fun _ _ _ _ hC => ?_, trivial⟩
              · skip
                obtain ⟨_, ⟨hX, rfl⟩, rfl⟩ := hC
                refine dp_norm1 ?_
                refine dp_e1 rfl opT_alloc rfl rfl rfl rfl fun _ _ _ _ hC => ?_
                obtain ⟨b12, rfl, e2, rfl⟩ := hC
                replace e2 := e2.symm; subst e2
                have hO := hO.mono (sw125.trans sw126)
                have hM := hM.mono sw126
                obtain ⟨o1, o2, rfl, _, _⟩ := id hO
                obtain ⟨x1, x2, rfl, _, _⟩ := id hX
                refine dp_ed1 rfl (opT_storeW rfl rfl rfl rfl (belt_one hO)) rfl rfl rfl rfl <| dp_p rfl (fun _ _ => opT_assign rfl) rfl rfl rfl <| dp_ed1 rfl (opT_storeW rfl rfl rfl rfl (belt_one hX)) rfl rfl rfl rfl <| dp_ed1 rfl (opT_storeW rfl rfl rfl rfl (one_trayL left)) rfl rfl rfl rfl <| dp_done1 ?_
                refine en_then <| ?_
                exact en_met (b9, b11, b12, o1, o2, x1, x2, vm, hw126) ⟨(sw113.trans (sw125.trans sw126)), hO, hX, hM⟩ ⟨rfl, rfl, rfl, rfl, rfl, rfl, rfl, rfl, trivial⟩ (.refl _) inferInstance
              · skip
                obtain ⟨b12, rfl, e2, rfl⟩ := hC
                replace e2 := e2.symm; subst e2
                refine dp_e1 rfl (opT_call rfl rfl rfl (its_ct hw125 _ b (hb.mono (sw113.trans sw125)) hsm)) rfl rfl rfl rfl fun vx hw128 _ sw128 hC => ?_
                obtain ⟨_, ⟨hX, rfl⟩, rfl⟩ := hC
                refine dp_norm1 ?_
                have hO := hO.mono (sw125.trans sw128)
                have hM := hM.mono sw128
                obtain ⟨o1, o2, rfl, _, _⟩ := id hO
                obtain ⟨x1, x2, rfl, _, _⟩ := id hX
                refine dp_ed1 rfl (opT_storeW rfl rfl rfl rfl (belt_one hO)) rfl rfl rfl rfl <| dp_p rfl (fun _ _ => opT_assign rfl) rfl rfl rfl <| dp_ed1 rfl (opT_storeW rfl rfl rfl rfl (belt_one hX)) rfl rfl rfl rfl <| dp_ed1 rfl (opT_storeW rfl rfl rfl rfl (one_trayL left)) rfl rfl rfl rfl <| dp_done1 ?_
                refine en_then <| ?_
                exact en_met (b9, b11, b12, o1, o2, x1, x2, vm, hw128) ⟨(sw113.trans (sw125.trans sw128)), hO, hX, hM⟩ ⟨rfl, rfl, rfl, rfl, rfl, rfl, rfl, rfl, trivial⟩ (.refl _) inferInstance
            · skip
              obtain ⟨b12, rfl, e2, rfl⟩ := hC
              replace e2 := e2.symm; subst e2
              refine dp_e1 rfl (opT_call rfl rfl rfl (copyM_ct hw113 _ l (hs.mono sw113) (by omega))) rfl rfl rfl rfl fun vm hw129 _ sw129 hC => ?_
              obtain ⟨_, ⟨hM, rfl⟩, rfl⟩ := hC
              refine dp_norm1 ?_
              refine dp_e1 rfl (opT_call rfl rfl rfl (its_ct hw129 _ b (hb.mono (sw113.trans sw129)) hsm)) rfl rfl rfl rfl fun vx hw130 _ sw130 hC => ?_
              obtain ⟨_, ⟨hX, rfl⟩, rfl⟩ := hC
              refine dp_norm1 ?_
              have hO := hO.mono (sw129.trans sw130)
              have hM := hM.mono sw130
              obtain ⟨o1, o2, rfl, _, _⟩ := id hO
              obtain ⟨x1, x2, rfl, _, _⟩ := id hX
              refine dp_ed1 rfl (opT_storeW rfl rfl rfl rfl (belt_one hO)) rfl rfl rfl rfl <| dp_p rfl (fun _ _ => opT_assign rfl) rfl rfl rfl <| dp_ed1 rfl (opT_storeW rfl rfl rfl rfl (belt_one hX)) rfl rfl rfl rfl <| dp_ed1 rfl (opT_storeW rfl rfl rfl rfl (one_trayL left)) rfl rfl rfl rfl <| dp_done1 ?_
              refine en_then <| ?_
              exact en_met (b9, b11, b12, o1, o2, x1, x2, vm, hw130) ⟨(sw113.trans (sw129.trans sw130)), hO, hX, hM⟩ ⟨rfl, rfl, rfl, rfl, rfl, rfl, rfl, rfl, trivial⟩ (.refl _) inferInstance
          · skip
            obtain ⟨b12, rfl, e2, rfl⟩ := hC
            replace e2 := e2.symm; subst e2
            refine dp_alts [3, 8] rfl (by simp) rfl rfl ⟨alt_op rfl (opT_call rfl rfl rfl (copyM_ct hw113 _ l (hs.mono sw113) (by omega))) rfl rfl fun vm hw131 _ sw131 hC => ?_, alt_op rfl opT_alloc rfl rfl fun _ _ _ _ hC => ?_, trivial⟩
            · skip
              obtain ⟨_, ⟨hM, rfl⟩, rfl⟩ := hC
              refine dp_norm1 ?_
              refine dp_alts [5, 8] rfl (by simp) rfl rfl ⟨alt_op rfl (opT_call rfl rfl rfl (its_ct hw131 _ b (hb.mono (sw113.trans sw131)) hsm)) rfl rfl fun vx hw132 _ sw132 hC => ?_, alt_op rfl opT_alloc rfl rfl fun _ _ _ _ hC => ?_, trivial⟩
              · skip
                obtain ⟨_, ⟨hX, rfl⟩, rfl⟩ := hC
                refine dp_norm1 ?_
                refine dp_e1 rfl opT_alloc rfl rfl rfl rfl fun _ _ _ _ hC => ?_
                obtain ⟨b11, rfl, e2, rfl⟩ := hC
                replace e2 := e2.symm; subst e2
                have hO := hO.mono (sw131.trans sw132)
                have hM := hM.mono sw132
                obtain ⟨o1, o2, rfl, _, _⟩ := id hO
                obtain ⟨x1, x2, rfl, _, _⟩ := id hX
                refine dp_ed1 rfl (opT_storeW rfl rfl rfl rfl (belt_one hO)) rfl rfl rfl rfl <| dp_p rfl (fun _ _ => opT_assign rfl) rfl rfl rfl <| dp_ed1 rfl (opT_storeW rfl rfl rfl rfl (belt_one hX)) rfl rfl rfl rfl <| dp_ed1 rfl (opT_storeW rfl rfl rfl rfl (one_trayL left)) rfl rfl rfl rfl <| dp_done1 ?_
                refine en_then <| ?_
                exact en_met (b9, b11, b12, o1, o2, x1, x2, vm, hw132) ⟨(sw113.trans (sw131.trans sw132)), hO, hX, hM⟩ ⟨rfl, rfl, rfl, rfl, rfl, rfl, rfl, rfl, trivial⟩ (.refl _) inferInstance
              · skip
                obtain ⟨b11, rfl, e2, rfl⟩ := hC
                replace e2 := e2.symm; subst e2
                refine dp_e1 rfl (opT_call rfl rfl rfl (its_ct hw131 _ b (hb.mono (sw113.trans sw131)) hsm)) rfl rfl rfl rfl fun vx hw134 _ sw134 hC => ?_
                obtain ⟨_, ⟨hX, rfl⟩, rfl⟩ := hC
                refine dp_norm1 ?_
                have hO := hO.mono (sw131.trans sw134)
                have hM := hM.mono sw134
                obtain ⟨o1, o2, rfl, _, _⟩ := id hO
                obtain ⟨x1, x2, rfl, _, _⟩ := id hX
                refine dp_ed1 rfl (opT_storeW rfl rfl rfl rfl (belt_one hO)) rfl rfl rfl rfl <| dp_p rfl (fun _ _ => opT_assign rfl) rfl rfl rfl <| dp_ed1 rfl (opT_storeW rfl rfl rfl rfl (belt_one hX)) rfl rfl rfl rfl <| dp_ed1 rfl (opT_storeW rfl rfl rfl rfl (one_trayL left)) rfl rfl rfl rfl <| dp_done1 ?_
                refine en_then <| ?_
                exact en_met (b9, b11, b12, o1, o2, x1, x2, vm, hw134) ⟨(sw113.trans (sw131.trans sw134)), hO, hX, hM⟩ ⟨rfl, rfl, rfl, rfl, rfl, rfl, rfl, rfl, trivial⟩ (.refl _) inferInstance
            · skip
              obtain ⟨b11, rfl, e2, rfl⟩ := hC
              replace e2 := e2.symm; subst e2
              refine dp_e1 rfl (opT_call rfl rfl rfl (copyM_ct hw113 _ l (hs.mono sw113) (by omega))) rfl rfl rfl rfl fun vm hw135 _ sw135 hC => ?_
              obtain ⟨_, ⟨hM, rfl⟩, rfl⟩ := hC
              refine dp_norm1 ?_
              refine dp_e1 rfl (opT_call rfl rfl rfl (its_ct hw135 _ b (hb.mono (sw113.trans sw135)) hsm)) rfl rfl rfl rfl fun vx hw136 _ sw136 hC => ?_
              obtain ⟨_, ⟨hX, rfl⟩, rfl⟩ := hC
              refine dp_norm1 ?_
              have hO := hO.mono (sw135.trans sw136)
              have hM := hM.mono sw136
              obtain ⟨o1, o2, rfl, _, _⟩ := id hO
              obtain ⟨x1, x2, rfl, _, _⟩ := id hX
              refine dp_ed1 rfl (opT_storeW rfl rfl rfl rfl (belt_one hO)) rfl rfl rfl rfl <| dp_p rfl (fun _ _ => opT_assign rfl) rfl rfl rfl <| dp_ed1 rfl (opT_storeW rfl rfl rfl rfl (belt_one hX)) rfl rfl rfl rfl <| dp_ed1 rfl (opT_storeW rfl rfl rfl rfl (one_trayL left)) rfl rfl rfl rfl <| dp_done1 ?_
              refine en_then <| ?_
              exact en_met (b9, b11, b12, o1, o2, x1, x2, vm, hw136) ⟨(sw113.trans (sw135.trans sw136)), hO, hX, hM⟩ ⟨rfl, rfl, rfl, rfl, rfl, rfl, rfl, rfl, trivial⟩ (.refl _) inferInstance
        · skip
          obtain ⟨b11, rfl, e2, rfl⟩ := hC
          replace e2 := e2.symm; subst e2
          refine dp_alts [1, 9] rfl (by simp) rfl rfl ⟨alt_op rfl (opT_call rfl rfl rfl (cloneF_ct h _ b (hb.mono (.refl _)) hsm)) rfl rfl fun vo hw137 _ sw137 hC => ?_, alt_op rfl opT_alloc rfl rfl fun _ _ _ _ hC => ?_, trivial⟩
          · skip
            obtain ⟨_, ⟨hO, rfl⟩, rfl⟩ := hC
            refine dp_norm1 ?_
            refine dp_alts [3, 9] rfl (by simp) rfl rfl ⟨alt_op rfl (opT_call rfl rfl rfl (copyM_ct hw137 _ l (hs.mono sw137) (by omega))) rfl rfl fun vm hw138 _ sw138 hC => ?_, alt_op rfl opT_alloc rfl rfl fun _ _ _ _ hC => ?_, trivial⟩
            · skip
              obtain ⟨_, ⟨hM, rfl⟩, rfl⟩ := hC
              refine dp_norm1 ?_
              refine dp_alts [5, 9] rfl (by simp) rfl rfl ⟨alt_op rfl (opT_call rfl rfl rfl (its_ct hw138 _ b (hb.mono (sw137.trans sw138)) hsm)) rfl rfl fun vx hw139 _ sw139 hC => ?_, alt_op rfl opT_alloc rfl rfl fun _ _ _ _ hC => ?_, trivial⟩
              · skip
                obtain ⟨_, ⟨hX, rfl⟩, rfl⟩ := hC
                refine dp_norm1 ?_
                refine dp_e1 rfl opT_alloc rfl rfl rfl rfl fun _ _ _ _ hC => ?_
                obtain ⟨b12, rfl, e2, rfl⟩ := hC
                replace e2 := e2.symm; subst e2
                have hO := hO.mono (sw138.trans sw139)
                have hM := hM.mono sw139
                obtain ⟨o1, o2, rfl, _, _⟩ := id hO
                obtain ⟨x1, x2, rfl, _, _⟩ := id hX
                refine dp_ed1 rfl (opT_storeW rfl rfl rfl rfl (belt_one hO)) rfl rfl rfl rfl <| dp_p rfl (fun _ _ => opT_assign rfl) rfl rfl rfl <| dp_ed1 rfl (opT_storeW rfl rfl rfl rfl (belt_one hX)) rfl rfl rfl rfl <| dp_ed1 rfl (opT_storeW rfl rfl rfl rfl (one_trayL left)) rfl rfl rfl rfl <| dp_done1 ?_
                refine en_then <| ?_
                exact en_met (b9, b11, b12, o1, o2, x1, x2, vm, hw139) ⟨(sw137.trans (sw138.trans sw139)), hO, hX, hM⟩ ⟨rfl, rfl, rfl, rfl, rfl, rfl, rfl, rfl, trivial⟩ (.refl _) inferInstance
              · skip
                obtain ⟨b12, rfl, e2, rfl⟩ := hC
                replace e2 := e2.symm; subst e2
                refine dp_e1 rfl (opT_call rfl rfl rfl (its_ct hw138 _ b (hb.mono (sw137.trans sw138)) hsm)) rfl rfl rfl rfl fun vx hw141 _ sw141 hC => ?_
                obtain ⟨_, ⟨hX, rfl⟩, rfl⟩ := hC
                refine dp_norm1 ?_
                have hO := hO.mono (sw138.trans sw141)
                have hM := hM.mono sw141
                obtain ⟨o1, o2, rfl, _, _⟩ := id hO
                obtain ⟨x1, x2, rfl, _, _⟩ := id hX
                refine dp_ed1 rfl (opT_storeW rfl rfl rfl rfl (belt_one hO)) rfl rfl rfl rfl <| dp_p rfl (fun _ _ => opT_assign rfl) rfl rfl rfl <| dp_ed1 rfl (opT_storeW rfl rfl rfl rfl (belt_one hX)) rfl rfl rfl rfl <| dp_ed1 rfl (opT_storeW rfl rfl rfl rfl (one_trayL left)) rfl rfl rfl rfl <| dp_done1 ?_
                refine en_then <| ?_
                exact en_met (b9, b11, b12, o1, o2, x1, x2, vm, hw141) ⟨(sw137.trans (sw138.trans sw141)), hO, hX, hM⟩ ⟨rfl, rfl, rfl, rfl, rfl, rfl, rfl, rfl, trivial⟩ (.refl _) inferInstance
            · skip
              obtain ⟨b12, rfl, e2, rfl⟩ := hC
              replace e2 := e2.symm; subst e2
              refine dp_e1 rfl (opT_call rfl rfl rfl (copyM_ct hw137 _ l (hs.mono sw137) (by omega))) rfl rfl rfl rfl fun vm hw142 _ sw142 hC => ?_
              obtain ⟨_, ⟨hM, rfl⟩, rfl⟩ := hC
              refine dp_norm1 ?_
              refine dp_e1 rfl (opT_call rfl rfl rfl (its_ct hw142 _ b (hb.mono (sw137.trans sw142)) hsm)) rfl rfl rfl rfl fun vx hw143 _ sw143 hC => ?_
              obtain ⟨_, ⟨hX, rfl⟩, rfl⟩ := hC
              refine dp_norm1 ?_
              have hO := hO.mono (sw142.trans sw143)
              have hM := hM.mono sw143
              obtain ⟨o1, o2, rfl, _, _⟩ := id hO
              obtain ⟨x1, x2, rfl, _, _⟩ := id hX
              refine dp_ed1 rfl (opT_storeW rfl rfl rfl rfl (belt_one hO)) rfl rfl rfl rfl <| dp_p rfl (fun _ _ => opT_assign rfl) rfl rfl rfl <| dp_ed1 rfl (opT_storeW rfl rfl rfl rfl (belt_one hX)) rfl rfl rfl rfl <| dp_ed1 rfl (opT_storeW rfl rfl rfl rfl (one_trayL left)) rfl rfl rfl rfl <| dp_done1 ?_
              refine en_then <| ?_
              exact en_met (b9, b11, b12, o1, o2, x1, x2, vm, hw143) ⟨(sw137.trans (sw142.trans sw143)), hO, hX, hM⟩ ⟨rfl, rfl, rfl, rfl, rfl, rfl, rfl, rfl, trivial⟩ (.refl _) inferInstance
          · skip
            obtain ⟨b12, rfl, e2, rfl⟩ := hC
            replace e2 := e2.symm; subst e2
            refine dp_e1 rfl (opT_call rfl rfl rfl (cloneF_ct h _ b (hb.mono (.refl _)) hsm)) rfl rfl rfl rfl fun vo hw144 _ sw144 hC => ?_
            obtain ⟨_, ⟨hO, rfl⟩, rfl⟩ := hC
            refine dp_norm1 ?_
            refine dp_e1 rfl (opT_call rfl rfl rfl (copyM_ct hw144 _ l (hs.mono sw144) (by omega))) rfl rfl rfl rfl fun vm hw145 _ sw145 hC => ?_
            obtain ⟨_, ⟨hM, rfl⟩, rfl⟩ := hC
            refine dp_norm1 ?_
            refine dp_e1 rfl (opT_call rfl rfl rfl (its_ct hw145 _ b (hb.mono (sw144.trans sw145)) hsm)) rfl rfl rfl rfl fun vx hw146 _ sw146 hC => ?_
            obtain ⟨_, ⟨hX, rfl⟩, rfl⟩ := hC
            refine dp_norm1 ?_
            have hO := hO.mono (sw145.trans sw146)
            have hM := hM.mono sw146
            obtain ⟨o1, o2, rfl, _, _⟩ := id hO
            obtain ⟨x1, x2, rfl, _, _⟩ := id hX
            refine dp_ed1 rfl (opT_storeW rfl rfl rfl rfl (belt_one hO)) rfl rfl rfl rfl <| dp_p rfl (fun _ _ => opT_assign rfl) rfl rfl rfl <| dp_ed1 rfl (opT_storeW rfl rfl rfl rfl (belt_one hX)) rfl rfl rfl rfl <| dp_ed1 rfl (opT_storeW rfl rfl rfl rfl (one_trayL left)) rfl rfl rfl rfl <| dp_done1 ?_
            refine en_then <| ?_
            exact en_met (b9, b11, b12, o1, o2, x1, x2, vm, hw146) ⟨(sw144.trans (sw145.trans sw146)), hO, hX, hM⟩ ⟨rfl, rfl, rfl, rfl, rfl, rfl, rfl, rfl, trivial⟩ (.refl _) inferInstance
        · skip
          obtain ⟨b12, rfl, e2, rfl⟩ := hC
          replace e2 := e2.symm; subst e2
          refine dp_alts [1, 8] rfl (by simp) rfl rfl ⟨alt_op rfl (opT_call rfl rfl rfl (cloneF_ct h _ b (hb.mono (.refl _)) hsm)) rfl rfl fun vo hw147 _ sw147 hC => ?_, alt_op rfl opT_alloc rfl rfl fun _ _ _ _ hC => ?_, trivial⟩
          · skip
            obtain ⟨_, ⟨hO, rfl⟩, rfl⟩ := hC
            refine dp_norm1 ?_
            refine dp_alts [3, 8] rfl (by simp) rfl rfl ⟨alt_op rfl (opT_call rfl rfl rfl (copyM_ct hw147 _ l (hs.mono sw147) (by omega))) rfl rfl fun vm hw148 _ sw148 hC => ?_, alt_op rfl opT_alloc rfl rfl fun _ _ _ _ hC => ?_, trivial⟩
            · skip
              obtain ⟨_, ⟨hM, rfl⟩, rfl⟩ := hC
              refine dp_norm1 ?_
              refine dp_alts [5, 8] rfl (by simp) rfl rfl ⟨alt_op rfl (opT_call rfl rfl rfl (its_ct hw148 _ b (hb.mono (sw147.trans sw148)) hsm)) rfl rfl fun vx hw149 _ sw149 hC => ?_, alt_op rfl opT_alloc rfl rfl fun _ _ _ _ hC => ?_, trivial⟩
              · skip
                obtain ⟨_, ⟨hX, rfl⟩, rfl⟩ := hC
                refine dp_norm1 ?_
                refine dp_e1 rfl opT_alloc rfl rfl rfl rfl fun _ _ _ _ hC => ?_
                obtain ⟨b11, rfl, e2, rfl⟩ := hC
                replace e2 := e2.symm; subst e2
                have hO := hO.mono (sw148.trans sw149)
                have hM := hM.mono sw149
                obtain ⟨o1, o2, rfl, _, _⟩ := id hO
                obtain ⟨x1, x2, rfl, _, _⟩ := id hX
                refine dp_ed1 rfl (opT_storeW rfl rfl rfl rfl (belt_one hO)) rfl rfl rfl rfl <| dp_p rfl (fun _ _ => opT_assign rfl) rfl rfl rfl <| dp_ed1 rfl (opT_storeW rfl rfl rfl rfl (belt_one hX)) rfl rfl rfl rfl <| dp_ed1 rfl (opT_storeW rfl rfl rfl rfl (one_trayL left)) rfl rfl rfl rfl <| dp_done1 ?_
                refine en_then <| ?_
                exact en_met (b9, b11, b12, o1, o2, x1, x2, vm, hw149) ⟨(sw147.trans (sw148.trans sw149)), hO, hX, hM⟩ ⟨rfl, rfl, rfl, rfl, rfl, rfl, rfl, rfl, trivial⟩ (.refl _) inferInstance
              · skip
                obtain ⟨b11, rfl, e2, rfl⟩ := hC
                replace e2 := e2.symm; subst e2
                refine dp_e1 rfl (opT_call rfl rfl rfl (its_ct hw148 _ b (hb.mono (sw147.trans sw148)) hsm)) rfl rfl rfl rfl fun vx hw151 _ sw151 hC => ?_
                obtain ⟨_, ⟨hX, rfl⟩, rfl⟩ := hC
                refine dp_norm1 ?_
                have hO := hO.mono (sw148.trans sw151)
                have hM := hM.mono sw151
                obtain ⟨o1, o2, rfl, _, _⟩ := id hO
                obtain ⟨x1, x2, rfl, _, _⟩ := id hX
                refine dp_ed1 rfl (opT_storeW rfl rfl rfl rfl (belt_one hO)) rfl rfl rfl rfl <| dp_p rfl (fun _ _ => opT_assign rfl) rfl rfl rfl <| dp_ed1 rfl (opT_storeW rfl rfl rfl rfl (belt_one hX)) rfl rfl rfl rfl <| dp_ed1 rfl (opT_storeW rfl rfl rfl rfl (one_trayL left)) rfl rfl rfl rfl <| dp_done1 ?_
                refine en_then <| ?_
                exact en_met (b9, b11, b12, o1, o2, x1, x2, vm, hw151) ⟨(sw147.trans (sw148.trans sw151)), hO, hX, hM⟩ ⟨rfl, rfl, rfl, rfl, rfl, rfl, rfl, rfl, trivial⟩ (.refl _) inferInstance
            · skip
              obtain ⟨b11, rfl, e2, rfl⟩ := hC
              replace e2 := e2.symm; subst e2
              refine dp_e1 rfl (opT_call rfl rfl rfl (copyM_ct hw147 _ l (hs.mono sw147) (by omega))) rfl rfl rfl rfl fun vm hw152 _ sw152 hC => ?_
              obtain ⟨_, ⟨hM, rfl⟩, rfl⟩ := hC
              refine dp_norm1 ?_
              refine dp_e1 rfl (opT_call rfl rfl rfl (its_ct hw152 _ b (hb.mono (sw147.trans sw152)) hsm)) rfl rfl rfl rfl fun vx hw153 _ sw153 hC => ?_
              obtain ⟨_, ⟨hX, rfl⟩, rfl⟩ := hC
              refine dp_norm1 ?_
              have hO := hO.mono (sw152.trans sw153)
              have hM := hM.mono sw153
              obtain ⟨o1, o2, rfl, _, _⟩ := id hO
              obtain ⟨x1, x2, rfl, _, _⟩ := id hX
              refine dp_ed1 rfl (opT_storeW rfl rfl rfl rfl (belt_one hO)) rfl rfl rfl rfl <| dp_p rfl (fun _ _ => opT_assign rfl) rfl rfl rfl <| dp_ed1 rfl (opT_storeW rfl rfl rfl rfl (belt_one hX)) rfl rfl rfl rfl <| dp_ed1 rfl (opT_storeW rfl rfl rfl rfl (one_trayL left)) rfl rfl rfl rfl <| dp_done1 ?_
              refine en_then <| ?_
              exact en_met (b9, b11, b12, o1, o2, x1, x2, vm, hw153) ⟨(sw147.trans (sw152.trans sw153)), hO, hX, hM⟩ ⟨rfl, rfl, rfl, rfl, rfl, rfl, rfl, rfl, trivial⟩ (.refl _) inferInstance
          · skip
            obtain ⟨b11, rfl, e2, rfl⟩ := hC
            replace e2 := e2.symm; subst e2
            refine dp_e1 rfl (opT_call rfl rfl rfl (cloneF_ct h _ b (hb.mono (.refl _)) hsm)) rfl rfl rfl rfl fun vo hw154 _ sw154 hC => ?_
            obtain ⟨_, ⟨hO, rfl⟩, rfl⟩ := hC
            refine dp_norm1 ?_
            refine dp_e1 rfl (opT_call rfl rfl rfl (copyM_ct hw154 _ l (hs.mono sw154) (by omega))) rfl rfl rfl rfl fun vm hw155 _ sw155 hC => ?_
            obtain ⟨_, ⟨hM, rfl⟩, rfl⟩ := hC
            refine dp_norm1 ?_
            refine dp_e1 rfl (opT_call rfl rfl rfl (its_ct hw155 _ b (hb.mono (sw154.trans sw155)) hsm)) rfl rfl rfl rfl fun vx hw156 _ sw156 hC => ?_
            obtain ⟨_, ⟨hX, rfl⟩, rfl⟩ := hC
            refine dp_norm1 ?_
            have hO := hO.mono (sw155.trans sw156)
            have hM := hM.mono sw156
            obtain ⟨o1, o2, rfl, _, _⟩ := id hO
            obtain ⟨x1, x2, rfl, _, _⟩ := id hX
            refine dp_ed1 rfl (opT_storeW rfl rfl rfl rfl (belt_one hO)) rfl rfl rfl rfl <| dp_p rfl (fun _ _ => opT_assign rfl) rfl rfl rfl <| dp_ed1 rfl (opT_storeW rfl rfl rfl rfl (belt_one hX)) rfl rfl rfl rfl <| dp_ed1 rfl (opT_storeW rfl rfl rfl rfl (one_trayL left)) rfl rfl rfl rfl <| dp_done1 ?_
            refine en_then <| ?_
            exact en_met (b9, b11, b12, o1, o2, x1, x2, vm, hw156) ⟨(sw154.trans (sw155.trans sw156)), hO, hX, hM⟩ ⟨rfl, rfl, rfl, rfl, rfl, rfl, rfl, rfl, trivial⟩ (.refl _) inferInstance
      · skip
        obtain ⟨b11, rfl, e2, rfl⟩ := hC
        replace e2 := e2.symm; subst e2
        refine dp_alts [1, 7, 9] rfl (by simp) rfl rfl ⟨alt_op rfl (opT_call rfl rfl rfl (cloneF_ct h _ b (hb.mono (.refl _)) hsm)) rfl rfl fun vo hw157 _ sw157 hC => ?_, alt_op rfl opT_alloc rfl rfl fun _ _ _ _ hC => ?_, alt_op rfl opT_alloc rfl rfl fun _ _ _ _ hC => ?_, trivial⟩
        · skip
          obtain ⟨_, ⟨hO, rfl⟩, rfl⟩ := hC
          refine dp_norm1 ?_
          refine dp_alts [3, 7, 9] rfl (by simp) rfl rfl ⟨alt_op rfl (opT_call rfl rfl rfl (copyM_ct hw157 _ l (hs.mono sw157) (by omega))) rfl rfl fun vm hw158 _ sw158 hC => ?_, alt_op rfl opT_alloc rfl rfl fun _ _ _ _ hC => ?_, alt_op rfl opT_alloc rfl rfl fun _ _ _ _ hC => ?_, trivial⟩
          · skip
            obtain ⟨_, ⟨hM, rfl⟩, rfl⟩ := hC
            refine dp_norm1 ?_
            refine dp_alts [5, 7, 9] rfl (by simp) rfl rfl ⟨alt_op rfl (opT_call rfl rfl rfl (its_ct hw158 _ b (hb.mono (sw157.trans sw158)) hsm)) rfl rfl fun vx hw159 _ sw159 hC => ?_, alt_op rfl opT_alloc rfl rfl fun _ _ _ _ hC => ?_, alt_op rfl opT_alloc rfl rfl fun _ _ _ _ hC => ?_, trivial⟩
            · skip
              obtain ⟨_, ⟨hX, rfl⟩, rfl⟩ := hC
              refine dp_norm1 ?_
              refine dp_alts [7, 9] rfl (by simp) rfl rfl ⟨alt_op rfl opT_alloc rfl rfl fun _ _ _ _ hC => ?_, alt_op rfl opT_alloc rfl rfl fun _ _ _ _ hC => ?_, trivial⟩
              · skip
                obtain ⟨b9, rfl, e2, rfl⟩ := hC
                replace e2 := e2.symm; subst e2
                refine dp_e1 rfl opT_alloc rfl rfl rfl rfl fun _ _ _ _ hC => ?_
                obtain ⟨b12, rfl, e2, rfl⟩ := hC
                replace e2 := e2.symm; subst e2
                have hO := hO.mono (sw158.trans sw159)
                have hM := hM.mono sw159
                obtain ⟨o1, o2, rfl, _, _⟩ := id hO
                obtain ⟨x1, x2, rfl, _, _⟩ := id hX
                refine dp_ed1 rfl (opT_storeW rfl rfl rfl rfl (belt_one hO)) rfl rfl rfl rfl <| dp_p rfl (fun _ _ => opT_assign rfl) rfl rfl rfl <| dp_ed1 rfl (opT_storeW rfl rfl rfl rfl (belt_one hX)) rfl rfl rfl rfl <| dp_ed1 rfl (opT_storeW rfl rfl rfl rfl (one_trayL left)) rfl rfl rfl rfl <| dp_done1 ?_
                refine en_then <| ?_
                exact en_met (b9, b11, b12, o1, o2, x1, x2, vm, hw159) ⟨(sw157.trans (sw158.trans sw159)), hO, hX, hM⟩ ⟨rfl, rfl, rfl, rfl, rfl, rfl, rfl, rfl, trivial⟩ (.refl _) inferInstance
              · skip
                obtain ⟨b12, rfl, e2, rfl⟩ := hC
                replace e2 := e2.symm; subst e2
                refine dp_e1 rfl opT_alloc rfl rfl rfl rfl fun _ _ _ _ hC => ?_
                obtain ⟨b9, rfl, e2, rfl⟩ := hC
                replace e2 := e2.symm; subst e2
                have hO := hO.mono (sw158.trans sw159)
                have hM := hM.mono sw159
                obtain ⟨o1, o2, rfl, _, _⟩ := id hO
                obtain ⟨x1, x2, rfl, _, _⟩ := id hX
                refine dp_ed1 rfl (opT_storeW rfl rfl rfl rfl (belt_one hO)) rfl rfl rfl rfl <| dp_p rfl (fun _ _ => opT_assign rfl) rfl rfl rfl <| dp_ed1 rfl (opT_storeW rfl rfl rfl rfl (belt_one hX)) rfl rfl rfl rfl <| dp_ed1 rfl (opT_storeW rfl rfl rfl rfl (one_trayL left)) rfl rfl rfl rfl <| dp_done1 ?_
                refine en_then <| ?_
                exact en_met (b9, b11, b12, o1, o2, x1, x2, vm, hw159) ⟨(sw157.trans (sw158.trans sw159)), hO, hX, hM⟩ ⟨rfl, rfl, rfl, rfl, rfl, rfl, rfl, rfl, trivial⟩ (.refl _) inferInstance
            · skip
              obtain ⟨b9, rfl, e2, rfl⟩ := hC
              replace e2 := e2.symm; subst e2
              refine dp_alts [5, 9] rfl (by simp) rfl rfl ⟨alt_op rfl (opT_call rfl rfl rfl (its_ct hw158 _ b (hb.mono (sw157.trans sw158)) hsm)) rfl rfl fun vx hw163 _ sw163 hC => ?_, alt_op rfl opT_alloc rfl rfl fun _ _ _ _ hC => ?_, trivial⟩
              · skip
                obtain ⟨_, ⟨hX, rfl⟩, rfl⟩ := hC
                refine dp_norm1 ?_
                refine dp_e1 rfl opT_alloc rfl rfl rfl rfl fun _ _ _ _ hC => ?_
                obtain ⟨b12, rfl, e2, rfl⟩ := hC
                replace e2 := e2.symm; subst e2
                have hO := hO.mono (sw158.trans sw163)
                have hM := hM.mono sw163
                obtain ⟨o1, o2, rfl, _, _⟩ := id hO
                obtain ⟨x1, x2, rfl, _, _⟩ := id hX
                refine dp_ed1 rfl (opT_storeW rfl rfl rfl rfl (belt_one hO)) rfl rfl rfl rfl <| dp_p rfl (fun _ _ => opT_assign rfl) rfl rfl rfl <| dp_ed1 rfl (opT_storeW rfl rfl rfl rfl (belt_one hX)) rfl rfl rfl rfl <| dp_ed1 rfl (opT_storeW rfl rfl rfl rfl (one_trayL left)) rfl rfl rfl rfl <| dp_done1 ?_
                refine en_then <| ?_
                exact en_met (b9, b11, b12, o1, o2, x1, x2, vm, hw163) ⟨(sw157.trans (sw158.trans sw163)), hO, hX, hM⟩ ⟨rfl, rfl, rfl, rfl, rfl, rfl, rfl, rfl, trivial⟩ (.refl _) inferInstance
              · skip
                obtain ⟨b12, rfl, e2, rfl⟩ := hC
                replace e2 := e2.symm; subst e2
                refine dp_e1 rfl (opT_call rfl rfl rfl (its_ct hw158 _ b (hb.mono (sw157.trans sw158)) hsm)) rfl rfl rfl rfl fun vx hw165 _ sw165 hC => ?_
                obtain ⟨_, ⟨hX, rfl⟩, rfl⟩ := hC
                refine dp_norm1 ?_
                have hO := hO.mono (sw158.trans sw165)
                have hM := hM.mono sw165
                obtain ⟨o1, o2, rfl, _, _⟩ := id hO
                obtain ⟨x1, x2, rfl, _, _⟩ := id hX
                refine dp_ed1 rfl (opT_storeW rfl rfl rfl rfl (belt_one hO)) rfl rfl rfl rfl <| dp_p rfl (fun _ _ => opT_assign rfl) rfl rfl rfl <| dp_ed1 rfl (opT_storeW rfl rfl rfl rfl (belt_one hX)) rfl rfl rfl rfl <| dp_ed1 rfl (opT_storeW rfl rfl rfl rfl (one_trayL left)) rfl rfl rfl rfl <| dp_done1 ?_
                refine en_then <| ?_
                exact en_met (b9, b11, b12, o1, o2, x1, x2, vm, hw165) ⟨(sw157.trans (sw158.trans sw165)), hO, hX, hM⟩ ⟨rfl, rfl, rfl, rfl, rfl, rfl, rfl, rfl, trivial⟩ (.refl _) inferInstance
            · skip
              obtain ⟨b12, rfl, e2, rfl⟩ := hC
              replace e2 := e2.symm; subst e2
              refine dp_alts [5, 7] rfl (by simp) rfl rfl ⟨alt_op rfl (opT_call rfl rfl rfl (its_ct hw158 _ b (hb.mono (sw157.trans sw158)) hsm)) rfl rfl fun vx hw166 _ sw166 hC => ?_, alt_op rfl opT_alloc rfl rfl fun _ _ _ _ hC => ?_, trivial⟩
              · skip
                obtain ⟨_, ⟨hX, rfl⟩, rfl⟩ := hC
                refine dp_norm1 ?_
                refine dp_e1 rfl opT_alloc rfl rfl rfl rfl fun _ _ _ _ hC => ?_
                obtain ⟨b9, rfl, e2, rfl⟩ := hC
                replace e2 := e2.symm; subst e2
                have hO := hO.mono (sw158.trans sw166)
                have hM := hM.mono sw166
                obtain ⟨o1, o2, rfl, _, _⟩ := id hO
                obtain ⟨x1, x2, rfl, _, _⟩ := id hX
                refine dp_ed1 rfl (opT_storeW rfl rfl rfl rfl (belt_one hO)) rfl rfl rfl rfl <| dp_p rfl (fun _ _ => opT_assign rfl) rfl rfl rfl <| dp_ed1 rfl (opT_storeW rfl rfl rfl rfl (belt_one hX)) rfl rfl rfl rfl <| dp_ed1 rfl (opT_storeW rfl rfl rfl rfl (one_trayL left)) rfl rfl rfl rfl <| dp_done1 ?_
                refine en_then <| ?_
                exact en_met (b9, b11, b12, o1, o2, x1, x2, vm, hw166) ⟨(sw157.trans (sw158.trans sw166)), hO, hX, hM⟩ ⟨rfl, rfl, rfl, rfl, rfl, rfl, rfl, rfl, trivial⟩ (.refl _) inferInstance
              · skip
                obtain ⟨b9, rfl, e2, rfl⟩ := hC
                replace e2 := e2.symm; subst e2
                refine dp_e1 rfl (opT_call rfl rfl rfl (its_ct hw158 _ b (hb.mono (sw157.trans sw158)) hsm)) rfl rfl rfl rfl fun vx hw168 _ sw168 hC => ?_
                obtain ⟨_, ⟨hX, rfl⟩, rfl⟩ := hC
                refine dp_norm1 ?_
                have hO := hO.mono (sw158.trans sw168)
                have hM := hM.mono sw168
                obtain ⟨o1, o2, rfl, _, _⟩ := id hO
                obtain ⟨x1, x2, rfl, _, _⟩ := id hX
                refine dp_ed1 rfl (opT_storeW rfl rfl rfl rfl (belt_one hO)) rfl rfl rfl rfl <| dp_p rfl (fun _ _ => opT_assign rfl) rfl rfl rfl <| dp_ed1 rfl (opT_storeW rfl rfl rfl rfl (belt_one hX)) rfl rfl rfl rfl <| dp_ed1 rfl (opT_storeW rfl rfl rfl rfl (one_trayL left)) rfl rfl rfl rfl <| dp_done1 ?_
                refine en_then <| ?_
                exact en_met (b9, b11, b12, o1, o2, x1, x2, vm, hw168) ⟨(sw157.trans (sw158.trans sw168)), hO, hX, hM⟩ ⟨rfl, rfl, rfl, rfl, rfl, rfl, rfl, rfl, trivial⟩ (.refl _) inferInstance
          · skip
            obtain ⟨b9, rfl, e2, rfl⟩ := hC
            replace e2 := e2.symm; subst e2
            refine dp_alts [3, 9] rfl (by simp) rfl rfl ⟨alt_op rfl (opT_call rfl rfl rfl (copyM_ct hw157 _ l (hs.mono sw157) (by omega))) rfl rfl fun vm hw169 _ sw169 hC => ?_, alt_op rfl opT_alloc rfl rfl fun _ _ _ _ hC => ?_, trivial⟩
            · skip
              obtain ⟨_, ⟨hM, rfl⟩, rfl⟩ := hC
              refine dp_norm1 ?_
              refine dp_alts [5, 9] rfl (by simp) rfl rfl ⟨alt_op rfl (opT_call rfl rfl rfl (its_ct hw169 _ b (hb.mono (sw157.trans sw169)) hsm)) rfl rfl fun vx hw170 _ sw170 hC => ?_, alt_op rfl opT_alloc rfl rfl fun _ _ _ _ hC => ?_, trivial⟩
              · skip
                obtain ⟨_, ⟨hX, rfl⟩, rfl⟩ := hC
                refine dp_norm1 ?_
                refine dp_e1 rfl opT_alloc rfl rfl rfl rfl fun _ _ _ _ hC => ?_
                obtain ⟨b12, rfl, e2, rfl⟩ := hC
                replace e2 := e2.symm; subst e2
                have hO := hO.mono (sw169.trans sw170)
                have hM := hM.mono sw170
                obtain ⟨o1, o2, rfl, _, _⟩ := id hO
                obtain ⟨x1, x2, rfl, _, _⟩ := id hX
                refine dp_ed1 rfl (opT_storeW rfl rfl rfl rfl (belt_one hO)) rfl rfl rfl rfl <| dp_p rfl (fun _ _ => opT_assign rfl) rfl rfl rfl <| dp_ed1 rfl (opT_storeW rfl rfl rfl rfl (belt_one hX)) rfl rfl rfl rfl <| dp_ed1 rfl (opT_storeW rfl rfl rfl rfl (one_trayL left)) rfl rfl rfl rfl <| dp_done1 ?_
                refine en_then <| ?_
                exact en_met (b9, b11, b12, o1, o2, x1, x2, vm, hw170) ⟨(sw157.trans (sw169.trans sw170)), hO, hX, hM⟩ ⟨rfl, rfl, rfl, rfl, rfl, rfl, rfl, rfl, trivial⟩ (.refl _) inferInstance
              · skip
                obtain ⟨b12, rfl, e2, rfl⟩ := hC
                replace e2 := e2.symm; subst e2
                refine dp_e1 rfl (opT_call rfl rfl rfl (its_ct hw169 _ b (hb.mono (sw157.trans sw169)) hsm)) rfl rfl rfl rfl fun vx hw172 _ sw172 hC => ?_
                obtain ⟨_, ⟨hX, rfl⟩, rfl⟩ := hC
                refine dp_norm1 ?_
                have hO := hO.mono (sw169.trans sw172)
                have hM := hM.mono sw172
                obtain ⟨o1, o2, rfl, _, _⟩ := id hO
                obtain ⟨x1, x2, rfl, _, _⟩ := id hX
                refine dp_ed1 rfl (opT_storeW rfl rfl rfl rfl (belt_one hO)) rfl rfl rfl rfl <| dp_p rfl (fun _ _ => opT_assign rfl) rfl rfl rfl <| dp_ed1 rfl (opT_storeW rfl rfl rfl rfl (belt_one hX)) rfl rfl rfl rfl <| dp_ed1 rfl (opT_storeW rfl rfl rfl rfl (one_trayL left)) rfl rfl rfl rfl <| dp_done1 ?_
                refine en_then <| ?_
                exact en_met (b9, b11, b12, o1, o2, x1, x2, vm, hw172) ⟨(sw157.trans (sw169.trans sw172)), hO, hX, hM⟩ ⟨rfl, rfl, rfl, rfl, rfl, rfl, rfl, rfl, trivial⟩ (.refl _) inferInstance
            · skip
              obtain ⟨b12, rfl, e2, rfl⟩ := hC
              replace e2 := e2.symm; subst e2
              refine dp_e1 rfl (opT_call rfl rfl rfl (copyM_ct hw157 _ l (hs.mono sw157) (by omega))) rfl rfl rfl rfl fun vm hw173 _ sw173 hC => ?_
              obtain ⟨_, ⟨hM, rfl⟩, rfl⟩ := hC
              refine dp_norm1 ?_
              refine dp_e1 rfl (opT_call rfl rfl rfl (its_ct hw173 _ b (hb.mono (sw157.trans sw173)) hsm)) rfl rfl rfl rfl fun vx hw174 _ sw174 hC => ?_
              obtain ⟨_, ⟨hX, rfl⟩, rfl⟩ := hC
              refine dp_norm1 ?_
              have hO := hO.mono (sw173.trans sw174)
              have hM := hM.mono sw174
              obtain ⟨o1, o2, rfl, _, _⟩ := id hO
              obtain ⟨x1, x2, rfl, _, _⟩ := id hX
              refine dp_ed1 rfl (opT_storeW rfl rfl rfl rfl (belt_one hO)) rfl rfl rfl rfl <| dp_p rfl (fun _ _ => opT_assign rfl) rfl rfl rfl <| dp_ed1 rfl (opT_storeW rfl rfl rfl rfl (belt_one hX)) rfl rfl rfl rfl <| dp_ed1 rfl (opT_storeW rfl rfl rfl rfl (one_trayL left)) rfl rfl rfl rfl <| dp_done1 ?_
              refine en_then <| ?_
              exact en_met (b9, b11, b12, o1, o2, x1, x2, vm, hw174) ⟨(sw157.trans (sw173.trans sw174)), hO, hX, hM⟩ ⟨rfl, rfl, rfl, rfl, rfl, rfl, rfl, rfl, trivial⟩ (.refl _) inferInstance
          · skip
            obtain ⟨b12, rfl, e2, rfl⟩ := hC
            replace e2 := e2.symm; subst e2
            refine dp_alts [3, 7] rfl (by simp) rfl rfl ⟨alt_op rfl (opT_call rfl rfl rfl (copyM_ct hw157 _ l (hs.mono sw157) (by omega))) rfl rfl fun vm hw175 _ sw175 hC => ?_, alt_op rfl opT_alloc rfl rfl fun _ _ _ _ hC => ?_, trivial⟩
            · skip
              obtain ⟨_, ⟨hM, rfl⟩, rfl⟩ := hC
              refine dp_norm1 ?_
              refine dp_alts [5, 7] rfl (by simp) rfl rfl ⟨alt_op rfl (opT_call rfl rfl rfl (its_ct hw175 _ b (hb.mono (sw157.trans sw175)) hsm)) rfl rfl fun vx hw176 _ sw176 hC => ?_, alt_op rfl opT_alloc rfl rfl fun _ _ _ _ hC => ?_, trivial⟩
              · skip
                obtain ⟨_, ⟨hX, rfl⟩, rfl⟩ := hC
                refine dp_norm1 ?_
                refine dp_e1 rfl opT_alloc rfl rfl rfl rfl fun _ _ _ _ hC => ?_
                obtain ⟨b9, rfl, e2, rfl⟩ := hC
                replace e2 := e2.symm; subst e2
                have hO := hO.mono (sw175.trans sw176)
                have hM := hM.mono sw176
                obtain ⟨o1, o2, rfl, _, _⟩ := id hO
                obtain ⟨x1, x2, rfl, _, _⟩ := id hX
                refine dp_ed1 rfl (opT_storeW rfl rfl rfl rfl (belt_one hO)) rfl rfl rfl rfl <| dp_p rfl (fun _ _ => opT_assign rfl) rfl rfl rfl <| dp_ed1 rfl (opT_storeW rfl rfl rfl rfl (belt_one hX)) rfl rfl rfl rfl <| dp_ed1 rfl (opT_storeW rfl rfl rfl rfl (one_trayL left)) rfl rfl rfl rfl <| dp_done1 ?_
                refine en_then <| ?_
                exact en_met (b9, b11, b12, o1, o2, x1, x2, vm, hw176) ⟨(sw157.trans (sw175.trans sw176)), hO, hX, hM⟩ ⟨rfl, rfl, rfl, rfl, rfl, rfl, rfl, rfl, trivial⟩ (.refl _) inferInstance
              · skip
                obtain ⟨b9, rfl, e2, rfl⟩ := hC
                replace e2 := e2.symm; subst e2
                refine dp_e1 rfl (opT_call rfl rfl rfl (its_ct hw175 _ b (hb.mono (sw157.trans sw175)) hsm)) rfl rfl rfl rfl fun vx hw178 _ sw178 hC => ?_
                obtain ⟨_, ⟨hX, rfl⟩, rfl⟩ := hC
                refine dp_norm1 ?_
                have hO := hO.mono (sw175.trans sw178)
                have hM := hM.mono sw178
                obtain ⟨o1, o2, rfl, _, _⟩ := id hO
                obtain ⟨x1, x2, rfl, _, _⟩ := id hX
                refine dp_ed1 rfl (opT_storeW rfl rfl rfl rfl (belt_one hO)) rfl rfl rfl rfl <| dp_p rfl (fun _ _ => opT_assign rfl) rfl rfl rfl <| dp_ed1 rfl (opT_storeW rfl rfl rfl rfl (belt_one hX)) rfl rfl rfl rfl <| dp_ed1 rfl (opT_storeW rfl rfl rfl rfl (one_trayL left)) rfl rfl rfl rfl <| dp_done1 ?_
                refine en_then <| ?_
                exact en_met (b9, b11, b12, o1, o2, x1, x2, vm, hw178) ⟨(sw157.trans (sw175.trans sw178)), hO, hX, hM⟩ ⟨rfl, rfl, rfl, rfl, rfl, rfl, rfl, rfl, trivial⟩ (.refl _) inferInstance
            · skip
              obtain ⟨b9, rfl, e2, rfl⟩ := hC
              replace e2 := e2.symm; subst e2
              refine dp_e1 rfl (opT_call rfl rfl rfl (copyM_ct hw157 _ l (hs.mono sw157) (by omega))) rfl rfl rfl rfl fun vm hw179 _ sw179 hC => ?_
              obtain ⟨_, ⟨hM, rfl⟩, rfl⟩ := hC
              refine dp_norm1 ?_
              refine dp_e1 rfl (opT_call rfl rfl rfl (its_ct hw179 _ b (hb.mono (sw157.trans sw179)) hsm)) rfl rfl rfl rfl fun vx hw180 _ sw180 hC => ?_
              obtain ⟨_, ⟨hX, rfl⟩, rfl⟩ := hC
              refine dp_norm1 ?_
              have hO := hO.mono (sw179.trans sw180)
              have hM := hM.mono sw180
              obtain ⟨o1, o2, rfl, _, _⟩ := id hO
              obtain ⟨x1, x2, rfl, _, _⟩ := id hX
              refine dp_ed1 rfl (opT_storeW rfl rfl rfl rfl (belt_one hO)) rfl rfl rfl rfl <| dp_p rfl (fun _ _ => opT_assign rfl) rfl rfl rfl <| dp_ed1 rfl (opT_storeW rfl rfl rfl rfl (belt_one hX)) rfl rfl rfl rfl <| dp_ed1 rfl (opT_storeW rfl rfl rfl rfl (one_trayL left)) rfl rfl rfl rfl <| dp_done1 ?_
              refine en_then <| ?_
              exact en_met (b9, b11, b12, o1, o2, x1, x2, vm, hw180) ⟨(sw157.trans (sw179.trans sw180)), hO, hX, hM⟩ ⟨rfl, rfl, rfl, rfl, rfl, rfl, rfl, rfl, trivial⟩ (.refl _) inferInstance
        · skip
          obtain ⟨b9, rfl, e2, rfl⟩ := hC
          replace e2 := e2.symm; subst e2
          refine dp_alts [1, 9] rfl (by simp) rfl rfl ⟨alt_op rfl (opT_call rfl rfl rfl (cloneF_ct h _ b (hb.mono (.refl _)) hsm)) rfl rfl fun vo hw181 _ sw181 hC => ?_, alt_op rfl opT_alloc rfl rfl fun _ _ _ _ hC => ?_, trivial⟩
          · skip
            obtain ⟨_, ⟨hO, rfl⟩, rfl⟩ := hC
            refine dp_norm1 ?_
            refine dp_alts [3, 9] rfl (by simp) rfl rfl ⟨alt_op rfl (opT_call rfl rfl rfl (copyM_ct hw181 _ l (hs.mono sw181) (by omega))) rfl rfl fun vm hw182 _ sw182 hC => ?_, alt_op rfl opT_alloc rfl rfl fun _ _ _ _ hC => ?_, trivial⟩
            · skip
              obtain ⟨_, ⟨hM, rfl⟩, rfl⟩ := hC
              refine dp_norm1 ?_
              refine dp_alts [5, 9] rfl (by simp) rfl rfl ⟨alt_op rfl (opT_call rfl rfl rfl (its_ct hw182 _ b (hb.mono (sw181.trans sw182)) hsm)) rfl rfl fun vx hw183 _ sw183 hC => ?_, alt_op rfl opT_alloc rfl rfl fun _ _ _ _ hC => ?_, trivial⟩
              · skip
                obtain ⟨_, ⟨hX, rfl⟩, rfl⟩ := hC
                refine dp_norm1 ?_
                refine dp_e1 rfl opT_alloc rfl rfl rfl rfl fun _ _ _ _ hC => ?_
                obtain ⟨b12, rfl, e2, rfl⟩ := hC
                replace e2 := e2.symm; subst e2
                have hO := hO.mono (sw182.trans sw183)
                have hM := hM.mono sw183
                obtain ⟨o1, o2, rfl, _, _⟩ := id hO
                obtain ⟨x1, x2, rfl, _, _⟩ := id hX
                refine dp_ed1 rfl (opT_storeW rfl rfl rfl rfl (belt_one hO)) rfl rfl rfl rfl <| dp_p rfl (fun _ _ => opT_assign rfl) rfl rfl rfl <| dp_ed1 rfl (opT_storeW rfl rfl rfl rfl (belt_one hX)) rfl rfl rfl rfl <| dp_ed1 rfl (opT_storeW rfl rfl rfl rfl (one_trayL left)) rfl rfl rfl rfl <| dp_done1 ?_
                refine en_then <| ?_
                exact en_met (b9, b11, b12, o1, o2, x1, x2, vm, hw183) ⟨(sw181.trans (sw182.trans sw183)), hO, hX, hM⟩ ⟨rfl, rfl, rfl, rfl, rfl, rfl, rfl, rfl, trivial⟩ (.refl _) inferInstance
              · skip
                obtain ⟨b12, rfl, e2, rfl⟩ := hC
                replace e2 := e2.symm; subst e2
                refine dp_e1 rfl (opT_call rfl rfl rfl (its_ct hw182 _ b (hb.mono (sw181.trans sw182)) hsm)) rfl rfl rfl rfl fun vx hw185 _ sw185 hC => ?_
                obtain ⟨_, ⟨hX, rfl⟩, rfl⟩ := hC
                refine dp_norm1 ?_
                have hO := hO.mono (sw182.trans sw185)
                have hM := hM.mono sw185
                obtain ⟨o1, o2, rfl, _, _⟩ := id hO
                obtain ⟨x1, x2, rfl, _, _⟩ := id hX
                refine dp_ed1 rfl (opT_storeW rfl rfl rfl rfl (belt_one hO)) rfl rfl rfl rfl <| dp_p rfl (fun _ _ => opT_assign rfl) rfl rfl rfl <| dp_ed1 rfl (opT_storeW rfl rfl rfl rfl (belt_one hX)) rfl rfl rfl rfl <| dp_ed1 rfl (opT_storeW rfl rfl rfl rfl (one_trayL left)) rfl rfl rfl rfl <| dp_done1 ?_
                refine en_then <| ?_
                exact en_met (b9, b11, b12, o1, o2, x1, x2, vm, hw185) ⟨(sw181.trans (sw182.trans sw185)), hO, hX, hM⟩ ⟨rfl, rfl, rfl, rfl, rfl, rfl, rfl, rfl, trivial⟩ (.refl _) inferInstance
            · skip
              obtain ⟨b12, rfl, e2, rfl⟩ := hC
              replace e2 := e2.symm; subst e2
              refine dp_e1 rfl (opT_call rfl rfl rfl (copyM_ct hw181 _ l (hs.mono sw181) (by omega))) rfl rfl rfl rfl fun vm hw186 _ sw186 hC => ?_
              obtain ⟨_, ⟨hM, rfl⟩, rfl⟩ := hC
              refine dp_norm1 ?_
              refine dp_e1 rfl (opT_call rfl rfl rfl (its_ct hw186 _ b (hb.mono (sw181.trans sw186)) hsm)) rfl rfl rfl rfl fun vx hw187 _ sw187 hC => ?_
              obtain ⟨_, ⟨hX, rfl⟩, rfl⟩ := hC
              refine dp_norm1 ?_
              have hO := hO.mono (sw186.trans sw187)
              have hM := hM.mono sw187
              obtain ⟨o1, o2, rfl, _, _⟩ := id hO
              obtain ⟨x1, x2, rfl, _, _⟩ := id hX
              refine dp_ed1 rfl (opT_storeW rfl rfl rfl rfl (belt_one hO)) rfl rfl rfl rfl <| dp_p rfl (fun _ _ => opT_assign rfl) rfl rfl rfl <| dp_ed1 rfl (opT_storeW rfl rfl rfl rfl (belt_one hX)) rfl rfl rfl rfl <| dp_ed1 rfl (opT_storeW rfl rfl rfl rfl (one_trayL left)) rfl rfl rfl rfl <| dp_done1 ?_
              refine en_then <| ?_
              exact en_met (b9, b11, b12, o1, o2, x1, x2, vm, hw187) ⟨(sw181.trans (sw186.trans sw187)), hO, hX, hM⟩ ⟨rfl, rfl, rfl, rfl, rfl, rfl, rfl, rfl, trivial⟩ (.refl _) inferInstance
          · skip
            obtain ⟨b12, rfl, e2, rfl⟩ := hC
            replace e2 := e2.symm; subst e2
            refine dp_e1 rfl (opT_call rfl rfl rfl (cloneF_ct h _ b (hb.mono (.refl _)) hsm)) rfl rfl rfl rfl fun vo hw188 _ sw188 hC => ?_
            obtain ⟨_, ⟨hO, rfl⟩, rfl⟩ := hC
            refine dp_norm1 ?_
            refine dp_e1 rfl (opT_call rfl rfl rfl (copyM_ct hw188 _ l (hs.mono sw188) (by omega))) rfl rfl rfl rfl fun vm hw189 _ sw189 hC => ?_
            obtain ⟨_, ⟨hM, rfl⟩, rfl⟩ := hC
            refine dp_norm1 ?_
            refine dp_e1 rfl (opT_call rfl rfl rfl (its_ct hw189 _ b (hb.mono (sw188.trans sw189)) hsm)) rfl rfl rfl rfl fun vx hw190 _ sw190 hC => ?_
            obtain ⟨_, ⟨hX, rfl⟩, rfl⟩ := hC
            refine dp_norm1 ?_
            have hO := hO.mono (sw189.trans sw190)
            have hM := hM.mono sw190
            obtain ⟨o1, o2, rfl, _, _⟩ := id hO
            obtain ⟨x1, x2, rfl, _, _⟩ := id hX
            refine dp_ed1 rfl (opT_storeW rfl rfl rfl rfl (belt_one hO)) rfl rfl rfl rfl <| dp_p rfl (fun _ _ => opT_assign rfl) rfl rfl rfl <| dp_ed1 rfl (opT_storeW rfl rfl rfl rfl (belt_one hX)) rfl rfl rfl rfl <| dp_ed1 rfl (opT_storeW rfl rfl rfl rfl (one_trayL left)) rfl rfl rfl rfl <| dp_done1 ?_
            refine en_then <| ?_
            exact en_met (b9, b11, b12, o1, o2, x1, x2, vm, hw190) ⟨(sw188.trans (sw189.trans sw190)), hO, hX, hM⟩ ⟨rfl, rfl, rfl, rfl, rfl, rfl, rfl, rfl, trivial⟩ (.refl _) inferInstance
        · skip
          obtain ⟨b12, rfl, e2, rfl⟩ := hC
          replace e2 := e2.symm; subst e2
          refine dp_alts [1, 7] rfl (by simp) rfl rfl ⟨alt_op rfl (opT_call rfl rfl rfl (cloneF_ct h _ b (hb.mono (.refl _)) hsm)) rfl rfl fun vo hw191 _ sw191 hC => ?_, alt_op rfl opT_alloc rfl rfl fun _ _ _ _ hC => ?_, trivial⟩
          · skip
            obtain ⟨_, ⟨hO, rfl⟩, rfl⟩ := hC
            refine dp_norm1 ?_
            refine dp_alts [3, 7] rfl (by simp) rfl rfl ⟨alt_op rfl (opT_call rfl rfl rfl (copyM_ct hw191 _ l (hs.mono sw191) (by omega))) rfl rfl fun vm hw192 _ sw192 hC => ?_, alt_op rfl opT_alloc rfl rfl fun _ _ _ _ hC => ?_, trivial⟩
            · skip
              obtain ⟨_, ⟨hM, rfl⟩, rfl⟩ := hC
              refine dp_norm1 ?_
              refine dp_alts [5, 7] rfl (by simp) rfl rfl ⟨alt_op rfl (opT_call rfl rfl rfl (its_ct hw192 _ b (hb.mono (sw191.trans sw192)) hsm)) rfl rfl fun vx hw193 _ sw193 hC => ?_, alt_op rfl opT_alloc rfl rfl fun _ _ _ _ hC => ?_, trivial⟩
              · skip
                obtain ⟨_, ⟨hX, rfl⟩, rfl⟩ := hC
                refine dp_norm1 ?_
                refine dp_e1 rfl opT_alloc rfl rfl rfl rfl fun _ _ _ _ hC => ?_
                obtain ⟨b9, rfl, e2, rfl⟩ := hC
                replace e2 := e2.symm; subst e2
                have hO := hO.mono (sw192.trans sw193)
                have hM := hM.mono sw193
                obtain ⟨o1, o2, rfl, _, _⟩ := id hO
                obtain ⟨x1, x2, rfl, _, _⟩ := id hX
                refine dp_ed1 rfl (opT_storeW rfl rfl rfl rfl (belt_one hO)) rfl rfl rfl rfl <| dp_p rfl (fun _ _ => opT_assign rfl) rfl rfl rfl <| dp_ed1 rfl (opT_storeW rfl rfl rfl rfl (belt_one hX)) rfl rfl rfl rfl <| dp_ed1 rfl (opT_storeW rfl rfl rfl rfl (one_trayL left)) rfl rfl rfl rfl <| dp_done1 ?_
                refine en_then <| ?_
                exact en_met (b9, b11, b12, o1, o2, x1, x2, vm, hw193) ⟨(sw191.trans (sw192.trans sw193)), hO, hX, hM⟩ ⟨rfl, rfl, rfl, rfl, rfl, rfl, rfl, rfl, trivial⟩ (.refl _) inferInstance
              · skip
                obtain ⟨b9, rfl, e2, rfl⟩ := hC
                replace e2 := e2.symm; subst e2
                refine dp_e1 rfl (opT_call rfl rfl rfl (its_ct hw192 _ b (hb.mono (sw191.trans sw192)) hsm)) rfl rfl rfl rfl fun vx hw195 _ sw195 hC => ?_
                obtain ⟨_, ⟨hX, rfl⟩, rfl⟩ := hC
                refine dp_norm1 ?_
                have hO := hO.mono (sw192.trans sw195)
                have hM := hM.mono sw195
                obtain ⟨o1, o2, rfl, _, _⟩ := id hO
                obtain ⟨x1, x2, rfl, _, _⟩ := id hX
                refine dp_ed1 rfl (opT_storeW rfl rfl rfl rfl (belt_one hO)) rfl rfl rfl rfl <| dp_p rfl (fun _ _ => opT_assign rfl) rfl rfl rfl <| dp_ed1 rfl (opT_storeW rfl rfl rfl rfl (belt_one hX)) rfl rfl rfl rfl <| dp_ed1 rfl (opT_storeW rfl rfl rfl rfl (one_trayL left)) rfl rfl rfl rfl <| dp_done1 ?_
                refine en_then <| ?_
                exact en_met (b9, b11, b12, o1, o2, x1, x2, vm, hw195) ⟨(sw191.trans (sw192.trans sw195)), hO, hX, hM⟩ ⟨rfl, rfl, rfl, rfl, rfl, rfl, rfl, rfl, trivial⟩ (.refl _) inferInstance
            · skip
              obtain ⟨b9, rfl, e2, rfl⟩ := hC
              replace e2 := e2.symm; subst e2
              refine dp_e1 rfl (opT_call rfl rfl rfl (copyM_ct hw191 _ l (hs.mono sw191) (by omega))) rfl rfl rfl rfl fun vm hw196 _ sw196 hC => ?_
              obtain ⟨_, ⟨hM, rfl⟩, rfl⟩ := hC
              refine dp_norm1 ?_
              refine dp_e1 rfl (opT_call rfl rfl rfl (its_ct hw196 _ b (hb.mono (sw191.trans sw196)) hsm)) rfl rfl rfl rfl fun vx hw197 _ sw197 hC => ?_
              obtain ⟨_, ⟨hX, rfl⟩, rfl⟩ := hC
              refine dp_norm1 ?_
              have hO := hO.mono (sw196.trans sw197)
              have hM := hM.mono sw197
              obtain ⟨o1, o2, rfl, _, _⟩ := id hO
              obtain ⟨x1, x2, rfl, _, _⟩ := id hX
              refine dp_ed1 rfl (opT_storeW rfl rfl rfl rfl (belt_one hO)) rfl rfl rfl rfl <| dp_p rfl (fun _ _ => opT_assign rfl) rfl rfl rfl <| dp_ed1 rfl (opT_storeW rfl rfl rfl rfl (belt_one hX)) rfl rfl rfl rfl <| dp_ed1 rfl (opT_storeW rfl rfl rfl rfl (one_trayL left)) rfl rfl rfl rfl <| dp_done1 ?_
              refine en_then <| ?_
              exact en_met (b9, b11, b12, o1, o2, x1, x2, vm, hw197) ⟨(sw191.trans (sw196.trans sw197)), hO, hX, hM⟩ ⟨rfl, rfl, rfl, rfl, rfl, rfl, rfl, rfl, trivial⟩ (.refl _) inferInstance
          · skip
            obtain ⟨b9, rfl, e2, rfl⟩ := hC
            replace e2 := e2.symm; subst e2
            refine dp_e1 rfl (opT_call rfl rfl rfl (cloneF_ct h _ b (hb.mono (.refl _)) hsm)) rfl rfl rfl rfl fun vo hw198 _ sw198 hC => ?_
            obtain ⟨_, ⟨hO, rfl⟩, rfl⟩ := hC
            refine dp_norm1 ?_
            refine dp_e1 rfl (opT_call rfl rfl rfl (copyM_ct hw198 _ l (hs.mono sw198) (by omega))) rfl rfl rfl rfl fun vm hw199 _ sw199 hC => ?_
            obtain ⟨_, ⟨hM, rfl⟩, rfl⟩ := hC
            refine dp_norm1 ?_
            refine dp_e1 rfl (opT_call rfl rfl rfl (its_ct hw199 _ b (hb.mono (sw198.trans sw199)) hsm)) rfl rfl rfl rfl fun vx hw200 _ sw200 hC => ?_
            obtain ⟨_, ⟨hX, rfl⟩, rfl⟩ := hC
            refine dp_norm1 ?_
            have hO := hO.mono (sw199.trans sw200)
            have hM := hM.mono sw200
            obtain ⟨o1, o2, rfl, _, _⟩ := id hO
            obtain ⟨x1, x2, rfl, _, _⟩ := id hX
            refine dp_ed1 rfl (opT_storeW rfl rfl rfl rfl (belt_one hO)) rfl rfl rfl rfl <| dp_p rfl (fun _ _ => opT_assign rfl) rfl rfl rfl <| dp_ed1 rfl (opT_storeW rfl rfl rfl rfl (belt_one hX)) rfl rfl rfl rfl <| dp_ed1 rfl (opT_storeW rfl rfl rfl rfl (one_trayL left)) rfl rfl rfl rfl <| dp_done1 ?_
            refine en_then <| ?_
            exact en_met (b9, b11, b12, o1, o2, x1, x2, vm, hw200) ⟨(sw198.trans (sw199.trans sw200)), hO, hX, hM⟩ ⟨rfl, rfl, rfl, rfl, rfl, rfl, rfl, rfl, trivial⟩ (.refl _) inferInstance
      · skip
        obtain ⟨b12, rfl, e2, rfl⟩ := hC
        replace e2 := e2.symm; subst e2
        refine dp_alts [1, 7, 8] rfl (by simp) rfl rfl ⟨alt_op rfl (opT_call rfl rfl rfl (cloneF_ct h _ b (hb.mono (.refl _)) hsm)) rfl rfl fun vo hw201 _ sw201 hC => ?_, alt_op rfl opT_alloc rfl rfl fun _ _ _ _ hC => ?_, alt_op rfl opT_alloc rfl rfl fun _ _ _ _ hC => ?_, trivial⟩
        · skip
          obtain ⟨_, ⟨hO, rfl⟩, rfl⟩ := hC
          refine dp_norm1 ?_
          refine dp_alts [3, 7, 8] rfl (by simp) rfl rfl ⟨alt_op rfl (opT_call rfl rfl rfl (copyM_ct hw201 _ l (hs.mono sw201) (by omega))) rfl rfl fun vm hw202 _ sw202 hC => ?_, alt_op rfl opT_alloc rfl rfl fun _ _ _ _ hC => ?_, alt_op rfl opT_alloc rfl rfl fun _ _ _ _ hC => ?_, trivial⟩
          · skip
            obtain ⟨_, ⟨hM, rfl⟩, rfl⟩ := hC
            refine dp_norm1 ?_
            refine dp_alts [5, 7, 8] rfl (by simp) rfl rfl ⟨alt_op rfl (opT_call rfl rfl rfl (its_ct hw202 _ b (hb.mono (sw201.trans sw202)) hsm)) rfl rfl fun vx hw203 _ sw203 hC => ?_, alt_op rfl opT_alloc rfl rfl fun _ _ _ _ hC => ?_, alt_op rfl opT_alloc rfl rfl fun _ _ _ _ hC => ?_, trivial⟩
            · skip
              obtain ⟨_, ⟨hX, rfl⟩, rfl⟩ := hC
              refine dp_norm1 ?_
              refine dp_alts [7, 8] rfl (by simp) rfl rfl ⟨alt_op rfl opT_alloc rfl rfl fun _ _ _ _ hC => ?_, alt_op rfl opT_alloc rfl rfl fun _ _ _ _ hC => ?_, trivial⟩
              · skip
                obtain ⟨b9, rfl, e2, rfl⟩ := hC
                replace e2 := e2.symm; subst e2
                refine dp_e1 rfl opT_alloc rfl rfl rfl rfl fun _ _ _ _ hC => ?_
                obtain ⟨b11, rfl, e2, rfl⟩ := hC
                replace e2 := e2.symm; subst e2
                have hO := hO.mono (sw202.trans sw203)
                have hM := hM.mono sw203
                obtain ⟨o1, o2, rfl, _, _⟩ := id hO
                obtain ⟨x1, x2, rfl, _, _⟩ := id hX
                refine dp_ed1 rfl (opT_storeW rfl rfl rfl rfl (belt_one hO)) rfl rfl rfl rfl <| dp_p rfl (fun _ _ => opT_assign rfl) rfl rfl rfl <| dp_ed1 rfl (opT_storeW rfl rfl rfl rfl (belt_one hX)) rfl rfl rfl rfl <| dp_ed1 rfl (opT_storeW rfl rfl rfl rfl (one_trayL left)) rfl rfl rfl rfl <| dp_done1 ?_
                refine en_then <| ?_
                exact en_met (b9, b11, b12, o1, o2, x1, x2, vm, hw203) ⟨(sw201.trans (sw202.trans sw203)), hO, hX, hM⟩ ⟨rfl, rfl, rfl, rfl, rfl, rfl, rfl, rfl, trivial⟩ (.refl _) inferInstance
              · skip
                obtain ⟨b11, rfl, e2, rfl⟩ := hC
                replace e2 := e2.symm; subst e2
                refine dp_e1 rfl opT_alloc rfl rfl rfl rfl fun _ _ _ _ hC => ?_
                obtain ⟨b9, rfl, e2, rfl⟩ := hC
                replace e2 := e2.symm; subst e2
                have hO := hO.mono (sw202.trans sw203)
                have hM := hM.mono sw203
                obtain ⟨o1, o2, rfl, _, _⟩ := id hO
                obtain ⟨x1, x2, rfl, _, _⟩ := id hX
                refine dp_ed1 rfl (opT_storeW rfl rfl rfl rfl (belt_one hO)) rfl rfl rfl rfl <| dp_p rfl (fun _ _ => opT_assign rfl) rfl rfl rfl <| dp_ed1 rfl (opT_storeW rfl rfl rfl rfl (belt_one hX)) rfl rfl rfl rfl <| dp_ed1 rfl (opT_storeW rfl rfl rfl rfl (one_trayL left)) rfl rfl rfl rfl <| dp_done1 ?_
                refine en_then <| ?_
                exact en_met (b9, b11, b12, o1, o2, x1, x2, vm, hw203) ⟨(sw201.trans (sw202.trans sw203)), hO, hX, hM⟩ ⟨rfl, rfl, rfl, rfl, rfl, rfl, rfl, rfl, trivial⟩ (.refl _) inferInstance
            · skip
              obtain ⟨b9, rfl, e2, rfl⟩ := hC
              replace e2 := e2.symm; subst e2
              refine dp_alts [5, 8] rfl (by simp) rfl rfl ⟨alt_op rfl (opT_call rfl rfl rfl (its_ct hw202 _ b (hb.mono (sw201.trans sw202)) hsm)) rfl rfl fun vx hw207 _ sw207 hC => ?_, alt_op rfl opT_alloc rfl rfl fun _ _ _ _ hC => ?_, trivial⟩
              · skip
                obtain ⟨_, ⟨hX, rfl⟩, rfl⟩ := hC
                refine dp_norm1 ?_
                refine dp_e1 rfl opT_alloc rfl rfl rfl rfl fun _ _ _ _ hC => ?_
                obtain ⟨b11, rfl, e2, rfl⟩ := hC
                replace e2 := e2.symm; subst e2
                have hO := hO.mono (sw202.trans sw207)
                have hM := hM.mono sw207
                obtain ⟨o1, o2, rfl, _, _⟩ := id hO
                obtain ⟨x1, x2, rfl, _, _⟩ := id hX
                refine dp_ed1 rfl (opT_storeW rfl rfl rfl rfl (belt_one hO)) rfl rfl rfl rfl <| dp_p rfl (fun _ _ => opT_assign rfl) rfl rfl rfl <| dp_ed1 rfl (opT_storeW rfl rfl rfl rfl (belt_one hX)) rfl rfl rfl rfl <| dp_ed1 rfl (opT_storeW rfl rfl rfl rfl (one_trayL left)) rfl rfl rfl rfl <| dp_done1 ?_
                refine en_then <| ?_
                exact en_met (b9, b11, b12, o1, o2, x1, x2, vm, hw207) ⟨(sw201.trans (sw202.trans sw207)), hO, hX, hM⟩ ⟨rfl, rfl, rfl, rfl, rfl, rfl, rfl, rfl, trivial⟩ (.refl _) inferInstance
              · skip
                obtain ⟨b11, rfl, e2, rfl⟩ := hC
                replace e2 := e2.symm; subst e2
                refine dp_e1 rfl (opT_call rfl rfl rfl (its_ct hw202 _ b (hb.mono (sw201.trans sw202)) hsm)) rfl rfl rfl rfl fun vx hw209 _ sw209 hC => ?_
                obtain ⟨_, ⟨hX, rfl⟩, rfl⟩ := hC
                refine dp_norm1 ?_
                have hO := hO.mono (sw202.trans sw209)
                have hM := hM.mono sw209
                obtain ⟨o1, o2, rfl, _, _⟩ := id hO
                obtain ⟨x1, x2, rfl, _, _⟩ := id hX
                refine dp_ed1 rfl (opT_storeW rfl rfl rfl rfl (belt_one hO)) rfl rfl rfl rfl <| dp_p rfl (fun _ _ => opT_assign rfl) rfl rfl rfl <| dp_ed1 rfl (opT_storeW rfl rfl rfl rfl (belt_one hX)) rfl rfl rfl rfl <| dp_ed1 rfl (opT_storeW rfl rfl rfl rfl (one_trayL left)) rfl rfl rfl rfl <| dp_done1 ?_
                refine en_then <| ?_
                exact en_met (b9, b11, b12, o1, o2, x1, x2, vm, hw209) ⟨(sw201.trans (sw202.trans sw209)), hO, hX, hM⟩ ⟨rfl, rfl, rfl, rfl, rfl, rfl, rfl, rfl, trivial⟩ (.refl _) inferInstance
            · skip
              obtain ⟨b11, rfl, e2, rfl⟩ := hC
              replace e2 := e2.symm; subst e2
              refine dp_alts [5, 7] rfl (by simp) rfl rfl ⟨alt_op rfl (opT_call rfl rfl rfl (its_ct hw202 _ b (hb.mono (sw201.trans sw202)) hsm)) rfl rfl fun vx hw210 _ sw210 hC => ?_, alt_op rfl opT_alloc rfl rfl fun _ _ _ _ hC => ?_, trivial⟩
              · skip
                obtain ⟨_, ⟨hX, rfl⟩, rfl⟩ := hC
                refine dp_norm1 ?_
                refine dp_e1 rfl opT_alloc rfl rfl rfl rfl fun _ _ _ _ hC => ?_
                obtain ⟨b9, rfl, e2, rfl⟩ := hC
                replace e2 := e2.symm; subst e2
                have hO := hO.mono (sw202.trans sw210)
                have hM := hM.mono sw210
                obtain ⟨o1, o2, rfl, _, _⟩ := id hO
                obtain ⟨x1, x2, rfl, _, _⟩ := id hX
                refine dp_ed1 rfl (opT_storeW rfl rfl rfl rfl (belt_one hO)) rfl rfl rfl rfl <| dp_p rfl (fun _ _ => opT_assign rfl) rfl rfl rfl <| dp_ed1 rfl (opT_storeW rfl rfl rfl rfl (belt_one hX)) rfl rfl rfl rfl <| dp_ed1 rfl (opT_storeW rfl rfl rfl rfl (one_trayL left)) rfl rfl rfl rfl <| dp_done1 ?_
                refine en_then <| ?_
                exact en_met (b9, b11, b12, o1, o2, x1, x2, vm, hw210) ⟨(sw201.trans (sw202.trans sw210)), hO, hX, hM⟩ ⟨rfl, rfl, rfl, rfl, rfl, rfl, rfl, rfl, trivial⟩ (.refl _) inferInstance
              · skip
                obtain ⟨b9, rfl, e2, rfl⟩ := hC
                replace e2 := e2.symm; subst e2
                refine dp_e1 rfl (opT_call rfl rfl rfl (its_ct hw202 _ b (hb.mono (sw201.trans sw202)) hsm)) rfl rfl rfl rfl fun vx hw212 _ sw212 hC => ?_
                obtain ⟨_, ⟨hX, rfl⟩, rfl⟩ := hC
                refine dp_norm1 ?_
                have hO := hO.mono (sw202.trans sw212)
                have hM := hM.mono sw212
                obtain ⟨o1, o2, rfl, _, _⟩ := id hO
                obtain ⟨x1, x2, rfl, _, _⟩ := id hX
                refine dp_ed1 rfl (opT_storeW rfl rfl rfl rfl (belt_one hO)) rfl rfl rfl rfl <| dp_p rfl (fun _ _ => opT_assign rfl) rfl rfl rfl <| dp_ed1 rfl (opT_storeW rfl rfl rfl rfl (belt_one hX)) rfl rfl rfl rfl <| dp_ed1 rfl (opT_storeW rfl rfl rfl rfl (one_trayL left)) rfl rfl rfl rfl <| dp_done1 ?_
                refine en_then <| ?_
                exact en_met (b9, b11, b12, o1, o2, x1, x2, vm, hw212) ⟨(sw201.trans (sw202.trans sw212)), hO, hX, hM⟩ ⟨rfl, rfl, rfl, rfl, rfl, rfl, rfl, rfl, trivial⟩ (.refl _) inferInstance
          · skip
            obtain ⟨b9, rfl, e2, rfl⟩ := hC
            replace e2 := e2.symm; subst e2
            refine dp_alts [3, 8] rfl (by simp) rfl rfl ⟨alt_op rfl (opT_call rfl rfl rfl (copyM_ct hw201 _ l (hs.mono sw201) (by omega))) rfl rfl fun vm hw213 _ sw213 hC => ?_, alt_op rfl opT_alloc rfl rfl fun _ _ _ _ hC => ?_, trivial⟩
            · skip
              obtain ⟨_, ⟨hM, rfl⟩, rfl⟩ := hC
              refine dp_norm1 ?_
              refine dp_alts [5, 8] rfl (by simp) rfl rfl ⟨alt_op rfl (opT_call rfl rfl rfl (its_ct hw213 _ b (hb.mono (sw201.trans sw213)) hsm)) rfl rfl fun vx hw214 _ sw214 hC => ?_, alt_op rfl opT_alloc rfl rfl fun _ _ _ _ hC => ?_, trivial⟩
              · skip
                obtain ⟨_, ⟨hX, rfl⟩, rfl⟩ := hC
                refine dp_norm1 ?_
                refine dp_e1 rfl opT_alloc rfl rfl rfl rfl fun _ _ _ _ hC => ?_
                obtain ⟨b11, rfl, e2, rfl⟩ := hC
                replace e2 := e2.symm; subst e2
                have hO := hO.mono (sw213.trans sw214)
                have hM := hM.mono sw214
                obtain ⟨o1, o2, rfl, _, _⟩ := id hO
                obtain ⟨x1, x2, rfl, _, _⟩ := id hX
                refine dp_ed1 rfl (opT_storeW rfl rfl rfl rfl (belt_one hO)) rfl rfl rfl rfl <| dp_p rfl (fun _ _ => opT_assign rfl) rfl rfl rfl <| dp_ed1 rfl (opT_storeW rfl rfl rfl rfl (belt_one hX)) rfl rfl rfl rfl <| dp_ed1 rfl (opT_storeW rfl rfl rfl rfl (one_trayL left)) rfl rfl rfl rfl <| dp_done1 ?_
                refine en_then <| ?_
                exact en_met (b9, b11, b12, o1, o2, x1, x2, vm, hw214) ⟨(sw201.trans (sw213.trans sw214)), hO, hX, hM⟩ ⟨rfl, rfl, rfl, rfl, rfl, rfl, rfl, rfl, trivial⟩ (.refl _) inferInstance
              · skip
                obtain ⟨b11, rfl, e2, rfl⟩ := hC
                replace e2 := e2.symm; subst e2
                refine dp_e1 rfl (opT_call rfl rfl rfl (its_ct hw213 _ b (hb.mono (sw201.trans sw213)) hsm)) rfl rfl rfl rfl fun vx hw216 _ sw216 hC => ?_
                obtain ⟨_, ⟨hX, rfl⟩, rfl⟩ := hC
                refine dp_norm1 ?_
                have hO := hO.mono (sw213.trans sw216)
                have hM := hM.mono sw216
                obtain ⟨o1, o2, rfl, _, _⟩ := id hO
                obtain ⟨x1, x2, rfl, _, _⟩ := id hX
                refine dp_ed1 rfl (opT_storeW rfl rfl rfl rfl (belt_one hO)) rfl rfl rfl rfl <| dp_p rfl (fun _ _ => opT_assign rfl) rfl rfl rfl <| dp_ed1 rfl (opT_storeW rfl rfl rfl rfl (belt_one hX)) rfl rfl rfl rfl <| dp_ed1 rfl (opT_storeW rfl rfl rfl rfl (one_trayL left)) rfl rfl rfl rfl <| dp_done1 ?_
                refine en_then <| ?_
                exact en_met (b9, b11, b12, o1, o2, x1, x2, vm, hw216) ⟨(sw201.trans (sw213.trans sw216)), hO, hX, hM⟩ ⟨rfl, rfl, rfl, rfl, rfl, rfl, rfl, rfl, trivial⟩ (.refl _) inferInstance
            · skip
              obtain ⟨b11, rfl, e2, rfl⟩ := hC
              replace e2 := e2.symm; subst e2
              refine dp_e1 rfl (opT_call rfl rfl rfl (copyM_ct hw201 _ l (hs.mono sw201) (by omega))) rfl rfl rfl rfl fun vm hw217 _ sw217 hC => ?_
              obtain ⟨_, ⟨hM, rfl⟩, rfl⟩ := hC
              refine dp_norm1 ?_
              refine dp_e1 rfl (opT_call rfl rfl rfl (its_ct hw217 _ b (hb.mono (sw201.trans sw217)) hsm)) rfl rfl rfl rfl fun vx hw218 _ sw218 hC => ?_
              obtain ⟨_, ⟨hX, rfl⟩, rfl⟩ := hC
              refine dp_norm1 ?_
              have hO := hO.mono (sw217.trans sw218)
              have hM := hM.mono sw218
              obtain ⟨o1, o2, rfl, _, _⟩ := id hO
              obtain ⟨x1, x2, rfl, _, _⟩ := id hX
              refine dp_ed1 rfl (opT_storeW rfl rfl rfl rfl (belt_one hO)) rfl rfl rfl rfl <| dp_p rfl (fun _ _ => opT_assign rfl) rfl rfl rfl <| dp_ed1 rfl (opT_storeW rfl rfl rfl rfl (belt_one hX)) rfl rfl rfl rfl <| dp_ed1 rfl (opT_storeW rfl rfl rfl rfl (one_trayL left)) rfl rfl rfl rfl <| dp_done1 ?_
              refine en_then <| ?_
              exact en_met (b9, b11, b12, o1, o2, x1, x2, vm, hw218) ⟨(sw201.trans (sw217.trans sw218)), hO, hX, hM⟩ ⟨rfl, rfl, rfl, rfl, rfl, rfl, rfl, rfl, trivial⟩ (.refl _) inferInstance
          · skip
            obtain ⟨b11, rfl, e2, rfl⟩ := hC
            replace e2 := e2.symm; subst e2
            refine dp_alts [3, 7] rfl (by simp) rfl rfl ⟨alt_op rfl (opT_call rfl rfl rfl (copyM_ct hw201 _ l (hs.mono sw201) (by omega))) rfl rfl fun vm hw219 _ sw219 hC => ?_, alt_op rfl opT_alloc rfl rfl fun _ _ _ _ hC => ?_, trivial⟩
            · skip
              obtain ⟨_, ⟨hM, rfl⟩, rfl⟩ := hC
              refine dp_norm1 ?_
              refine dp_alts [5, 7] rfl (by simp) rfl rfl ⟨alt_op rfl (opT_call rfl rfl rfl (its_ct hw219 _ b (hb.mono (sw201.trans sw219)) hsm)) rfl rfl fun vx hw220 _ sw220 hC => ?_, alt_op rfl opT_alloc rfl rfl fun _ _ _ _ hC => ?_, trivial⟩
              · skip
                obtain ⟨_, ⟨hX, rfl⟩, rfl⟩ := hC
                refine dp_norm1 ?_
                refine dp_e1 rfl opT_alloc rfl rfl rfl rfl fun _ _ _ _ hC => ?_
                obtain ⟨b9, rfl, e2, rfl⟩ := hC
                replace e2 := e2.symm; subst e2
                have hO := hO.mono (sw219.trans sw220)
                have hM := hM.mono sw220
                obtain ⟨o1, o2, rfl, _, _⟩ := id hO
                obtain ⟨x1, x2, rfl, _, _⟩ := id hX
                refine dp_ed1 rfl (opT_storeW rfl rfl rfl rfl (belt_one hO)) rfl rfl rfl rfl <| dp_p rfl (fun _ _ => opT_assign rfl) rfl rfl rfl <| dp_ed1 rfl (opT_storeW rfl rfl rfl rfl (belt_one hX)) rfl rfl rfl rfl <| dp_ed1 rfl (opT_storeW rfl rfl rfl rfl (one_trayL left)) rfl rfl rfl rfl <| dp_done1 ?_
                refine en_then <| ?_
                exact en_met (b9, b11, b12, o1, o2, x1, x2, vm, hw220) ⟨(sw201.trans (sw219.trans sw220)), hO, hX, hM⟩ ⟨rfl, rfl, rfl, rfl, rfl, rfl, rfl, rfl, trivial⟩ (.refl _) inferInstance
              · skip
                obtain ⟨b9, rfl, e2, rfl⟩ := hC
                replace e2 := e2.symm; subst e2
                refine dp_e1 rfl (opT_call rfl rfl rfl (its_ct hw219 _ b (hb.mono (sw201.trans sw219)) hsm)) rfl rfl rfl rfl fun vx hw222 _ sw222 hC => ?_
                obtain ⟨_, ⟨hX, rfl⟩, rfl⟩ := hC
                refine dp_norm1 ?_
                have hO := hO.mono (sw219.trans sw222)
                have hM := hM.mono sw222
                obtain ⟨o1, o2, rfl, _, _⟩ := id hO
                obtain ⟨x1, x2, rfl, _, _⟩ := id hX
                refine dp_ed1 rfl (opT_storeW rfl rfl rfl rfl (belt_one hO)) rfl rfl rfl rfl <| dp_p rfl (fun _ _ => opT_assign rfl) rfl rfl rfl <| dp_ed1 rfl (opT_storeW rfl rfl rfl rfl (belt_one hX)) rfl rfl rfl rfl <| dp_ed1 rfl (opT_storeW rfl rfl rfl rfl (one_trayL left)) rfl rfl rfl rfl <| dp_done1 ?_
                refine en_then <| ?_
                exact en_met (b9, b11, b12, o1, o2, x1, x2, vm, hw222) ⟨(sw201.trans (sw219.trans sw222)), hO, hX, hM⟩ ⟨rfl, rfl, rfl, rfl, rfl, rfl, rfl, rfl, trivial⟩ (.refl _) inferInstance
            · skip
              obtain ⟨b9, rfl, e2, rfl⟩ := hC
              replace e2 := e2.symm; subst e2
              refine dp_e1 rfl (opT_call rfl rfl rfl (copyM_ct hw201 _ l (hs.mono sw201) (by omega))) rfl rfl rfl rfl fun vm hw223 _ sw223 hC => ?_
              obtain ⟨_, ⟨hM, rfl⟩, rfl⟩ := hC
              refine dp_norm1 ?_
              refine dp_e1 rfl (opT_call rfl rfl rfl (its_ct hw223 _ b (hb.mono (sw201.trans sw223)) hsm)) rfl rfl rfl rfl fun vx hw224 _ sw224 hC => ?_
              obtain ⟨_, ⟨hX, rfl⟩, rfl⟩ := hC
              refine dp_norm1 ?_
              have hO := hO.mono (sw223.trans sw224)
              have hM := hM.mono sw224
              obtain ⟨o1, o2, rfl, _, _⟩ := id hO
              obtain ⟨x1, x2, rfl, _, _⟩ := id hX
              refine dp_ed1 rfl (opT_storeW rfl rfl rfl rfl (belt_one hO)) rfl rfl rfl rfl <| dp_p rfl (fun _ _ => opT_assign rfl) rfl rfl rfl <| dp_ed1 rfl (opT_storeW rfl rfl rfl rfl (belt_one hX)) rfl rfl rfl rfl <| dp_ed1 rfl (opT_storeW rfl rfl rfl rfl (one_trayL left)) rfl rfl rfl rfl <| dp_done1 ?_
              refine en_then <| ?_
              exact en_met (b9, b11, b12, o1, o2, x1, x2, vm, hw224) ⟨(sw201.trans (sw223.trans sw224)), hO, hX, hM⟩ ⟨rfl, rfl, rfl, rfl, rfl, rfl, rfl, rfl, trivial⟩ (.refl _) inferInstance
        · skip
          obtain ⟨b9, rfl, e2, rfl⟩ := hC
          replace e2 := e2.symm; subst e2
          refine dp_alts [1, 8] rfl (by simp) rfl rfl ⟨alt_op rfl (opT_call rfl rfl rfl (cloneF_ct h _ b (hb.mono (.refl _)) hsm)) rfl rfl fun vo hw225 _ sw225 hC => ?_, alt_op rfl opT_alloc rfl rfl fun _ _ _ _ hC => ?_, trivial⟩
          · skip
            obtain ⟨_, ⟨hO, rfl⟩, rfl⟩ := hC
            refine dp_norm1 ?_
            refine dp_alts [3, 8] rfl (by simp) rfl rfl ⟨alt_op rfl (opT_call rfl rfl rfl (copyM_ct hw225 _ l (hs.mono sw225) (by omega))) rfl rfl fun vm hw226 _ sw226 hC => ?_, alt_op rfl opT_alloc rfl rfl fun _ _ _ _ hC => ?_, trivial⟩
            · skip
              obtain ⟨_, ⟨hM, rfl⟩, rfl⟩ := hC
              refine dp_norm1 ?_
              refine dp_alts [5, 8] rfl (by simp) rfl rfl ⟨alt_op rfl (opT_call rfl rfl rfl (its_ct hw226 _ b (hb.mono (sw225.trans sw226)) hsm)) rfl rfl fun vx hw227 _ sw227 hC => ?_, alt_op rfl opT_alloc rfl rfl fun _ _ _ _ hC => ?_, trivial⟩
              · skip
                obtain ⟨_, ⟨hX, rfl⟩, rfl⟩ := hC
                refine dp_norm1 ?_
                refine dp_e1 rfl opT_alloc rfl rfl rfl rfl fun _ _ _ _ hC => ?_
                obtain ⟨b11, rfl, e2, rfl⟩ := hC
                replace e2 := e2.symm; subst e2
                have hO := hO.mono (sw226.trans sw227)
                have hM := hM.mono sw227
                obtain ⟨o1, o2, rfl, _, _⟩ := id hO
                obtain ⟨x1, x2, rfl, _, _⟩ := id hX
                refine dp_ed1 rfl (opT_storeW rfl rfl rfl rfl (belt_one hO)) rfl rfl rfl rfl <| dp_p rfl (fun _ _ => opT_assign rfl) rfl rfl rfl <| dp_ed1 rfl (opT_storeW rfl rfl rfl rfl (belt_one hX)) rfl rfl rfl rfl <| dp_ed1 rfl (opT_storeW rfl rfl rfl rfl (one_trayL left)) rfl rfl rfl rfl <| dp_done1 ?_
                refine en_then <| ?_
                exact en_met (b9, b11, b12, o1, o2, x1, x2, vm, hw227) ⟨(sw225.trans (sw226.trans sw227)), hO, hX, hM⟩ ⟨rfl, rfl, rfl, rfl, rfl, rfl, rfl, rfl, trivial⟩ (.refl _) inferInstance
              · skip
                obtain ⟨b11, rfl, e2, rfl⟩ := hC
                replace e2 := e2.symm; subst e2
                refine dp_e1 rfl (opT_call rfl rfl rfl (its_ct hw226 _ b (hb.mono (sw225.trans sw226)) hsm)) rfl rfl rfl rfl fun vx hw229 _ sw229 hC => ?_
                obtain ⟨_, ⟨hX, rfl⟩, rfl⟩ := hC
                refine dp_norm1 ?_
                have hO := hO.mono (sw226.trans sw229)
                have hM := hM.mono sw229
                obtain ⟨o1, o2, rfl, _, _⟩ := id hO
                obtain ⟨x1, x2, rfl, _, _⟩ := id hX
                refine dp_ed1 rfl (opT_storeW rfl rfl rfl rfl (belt_one hO)) rfl rfl rfl rfl <| dp_p rfl (fun _ _ => opT_assign rfl) rfl rfl rfl <| dp_ed1 rfl (opT_storeW rfl rfl rfl rfl (belt_one hX)) rfl rfl rfl rfl <| dp_ed1 rfl (opT_storeW rfl rfl rfl rfl (one_trayL left)) rfl rfl rfl rfl <| dp_done1 ?_
                refine en_then <| ?_
                exact en_met (b9, b11, b12, o1, o2, x1, x2, vm, hw229) ⟨(sw225.trans (sw226.trans sw229)), hO, hX, hM⟩ ⟨rfl, rfl, rfl, rfl, rfl, rfl, rfl, rfl, trivial⟩ (.refl _) inferInstance
            · skip
              obtain ⟨b11, rfl, e2, rfl⟩ := hC
              replace e2 := e2.symm; subst e2
              refine dp_e1 rfl (opT_call rfl rfl rfl (copyM_ct hw225 _ l (hs.mono sw225) (by omega))) rfl rfl rfl rfl fun vm hw230 _ sw230 hC => ?_
              obtain ⟨_, ⟨hM, rfl⟩, rfl⟩ := hC
              refine dp_norm1 ?_
              refine dp_e1 rfl (opT_call rfl rfl rfl (its_ct hw230 _ b (hb.mono (sw225.trans sw230)) hsm)) rfl rfl rfl rfl fun vx hw231 _ sw231 hC => ?_
              obtain ⟨_, ⟨hX, rfl⟩, rfl⟩ := hC
              refine dp_norm1 ?_
              have hO := hO.mono (sw230.trans sw231)
              have hM := hM.mono sw231
              obtain ⟨o1, o2, rfl, _, _⟩ := id hO
              obtain ⟨x1, x2, rfl, _, _⟩ := id hX
              refine dp_ed1 rfl (opT_storeW rfl rfl rfl rfl (belt_one hO)) rfl rfl rfl rfl <| dp_p rfl (fun _ _ => opT_assign rfl) rfl rfl rfl <| dp_ed1 rfl (opT_storeW rfl rfl rfl rfl (belt_one hX)) rfl rfl rfl rfl <| dp_ed1 rfl (opT_storeW rfl rfl rfl rfl (one_trayL left)) rfl rfl rfl rfl <| dp_done1 ?_
              refine en_then <| ?_
              exact en_met (b9, b11, b12, o1, o2, x1, x2, vm, hw231) ⟨(sw225.trans (sw230.trans sw231)), hO, hX, hM⟩ ⟨rfl, rfl, rfl, rfl, rfl, rfl, rfl, rfl, trivial⟩ (.refl _) inferInstance
          · skip
            obtain ⟨b11, rfl, e2, rfl⟩ := hC
            replace e2 := e2.symm; subst e2
            refine dp_e1 rfl (opT_call rfl rfl rfl (cloneF_ct h _ b (hb.mono (.refl _)) hsm)) rfl rfl rfl rfl fun vo hw232 _ sw232 hC => ?_
            obtain ⟨_, ⟨hO, rfl⟩, rfl⟩ := hC
            refine dp_norm1 ?_
            refine dp_e1 rfl (opT_call rfl rfl rfl (copyM_ct hw232 _ l (hs.mono sw232) (by omega))) rfl rfl rfl rfl fun vm hw233 _ sw233 hC => ?_
            obtain ⟨_, ⟨hM, rfl⟩, rfl⟩ := hC
            refine dp_norm1 ?_
            refine dp_e1 rfl (opT_call rfl rfl rfl (its_ct hw233 _ b (hb.mono (sw232.trans sw233)) hsm)) rfl rfl rfl rfl fun vx hw234 _ sw234 hC => ?_
            obtain ⟨_, ⟨hX, rfl⟩, rfl⟩ := hC
            refine dp_norm1 ?_
            have hO := hO.mono (sw233.trans sw234)
            have hM := hM.mono sw234
            obtain ⟨o1, o2, rfl, _, _⟩ := id hO
            obtain ⟨x1, x2, rfl, _, _⟩ := id hX
            refine dp_ed1 rfl (opT_storeW rfl rfl rfl rfl (belt_one hO)) rfl rfl rfl rfl <| dp_p rfl (fun _ _ => opT_assign rfl) rfl rfl rfl <| dp_ed1 rfl (opT_storeW rfl rfl rfl rfl (belt_one hX)) rfl rfl rfl rfl <| dp_ed1 rfl (opT_storeW rfl rfl rfl rfl (one_trayL left)) rfl rfl rfl rfl <| dp_done1 ?_
            refine en_then <| ?_
            exact en_met (b9, b11, b12, o1, o2, x1, x2, vm, hw234) ⟨(sw232.trans (sw233.trans sw234)), hO, hX, hM⟩ ⟨rfl, rfl, rfl, rfl, rfl, rfl, rfl, rfl, trivial⟩ (.refl _) inferInstance
        · skip
          obtain ⟨b11, rfl, e2, rfl⟩ := hC
          replace e2 := e2.symm; subst e2
          refine dp_alts [1, 7] rfl (by simp) rfl rfl ⟨alt_op rfl (opT_call rfl rfl rfl (cloneF_ct h _ b (hb.mono (.refl _)) hsm)) rfl rfl fun vo hw235 _ sw235 hC => ?_, alt_op rfl opT_alloc rfl rfl fun _ _ _ _ hC => ?_, trivial⟩
          · skip
            obtain ⟨_, ⟨hO, rfl⟩, rfl⟩ := hC
            refine dp_norm1 ?_
            refine dp_alts [3, 7] rfl (by simp) rfl rfl ⟨alt_op rfl (opT_call rfl rfl rfl (copyM_ct hw235 _ l (hs.mono sw235) (by omega))) rfl rfl fun vm hw236 _ sw236 hC => ?_, alt_op rfl opT_alloc rfl rfl fun _ _ _ _ hC => ?_, trivial⟩
            · skip
              obtain ⟨_, ⟨hM, rfl⟩, rfl⟩ := hC
              refine dp_norm1 ?_
              refine dp_alts [5, 7] rfl (by simp) rfl rfl ⟨alt_op rfl (opT_call rfl rfl rfl (its_ct hw236 _ b (hb.mono (sw235.trans sw236)) hsm)) rfl rfl fun vx hw237 _ sw237 hC => ?_, alt_op rfl opT_alloc rfl rfl fun _ _ _ _ hC => ?_, trivial⟩
              · skip
                obtain ⟨_, ⟨hX, rfl⟩, rfl⟩ := hC
                refine dp_norm1 ?_
                refine dp_e1 rfl opT_alloc rfl rfl rfl rfl fun _ _ _ _ hC => ?_
                obtain ⟨b9, rfl, e2, rfl⟩ := hC
                replace e2 := e2.symm; subst e2
                have hO := hO.mono (sw236.trans sw237)
                have hM := hM.mono sw237
                obtain ⟨o1, o2, rfl, _, _⟩ := id hO
                obtain ⟨x1, x2, rfl, _, _⟩ := id hX
                refine dp_ed1 rfl (opT_storeW rfl rfl rfl rfl (belt_one hO)) rfl rfl rfl rfl <| dp_p rfl (fun _ _ => opT_assign rfl) rfl rfl rfl <| dp_ed1 rfl (opT_storeW rfl rfl rfl rfl (belt_one hX)) rfl rfl rfl rfl <| dp_ed1 rfl (opT_storeW rfl rfl rfl rfl (one_trayL left)) rfl rfl rfl rfl <| dp_done1 ?_
                refine en_then <| ?_
                exact en_met (b9, b11, b12, o1, o2, x1, x2, vm, hw237) ⟨(sw235.trans (sw236.trans sw237)), hO, hX, hM⟩ ⟨rfl, rfl, rfl, rfl, rfl, rfl, rfl, rfl, trivial⟩ (.refl _) inferInstance
              · skip
                obtain ⟨b9, rfl, e2, rfl⟩ := hC
                replace e2 := e2.symm; subst e2
                refine dp_e1 rfl (opT_call rfl rfl rfl (its_ct hw236 _ b (hb.mono (sw235.trans sw236)) hsm)) rfl rfl rfl rfl fun vx hw239 _ sw239 hC => ?_
                obtain ⟨_, ⟨hX, rfl⟩, rfl⟩ := hC
                refine dp_norm1 ?_
                have hO := hO.mono (sw236.trans sw239)
                have hM := hM.mono sw239
                obtain ⟨o1, o2, rfl, _, _⟩ := id hO
                obtain ⟨x1, x2, rfl, _, _⟩ := id hX
                refine dp_ed1 rfl (opT_storeW rfl rfl rfl rfl (belt_one hO)) rfl rfl rfl rfl <| dp_p rfl (fun _ _ => opT_assign rfl) rfl rfl rfl <| dp_ed1 rfl (opT_storeW rfl rfl rfl rfl (belt_one hX)) rfl rfl rfl rfl <| dp_ed1 rfl (opT_storeW rfl rfl rfl rfl (one_trayL left)) rfl rfl rfl rfl <| dp_done1 ?_
                refine en_then <| ?_
                exact en_met (b9, b11, b12, o1, o2, x1, x2, vm, hw239) ⟨(sw235.trans (sw236.trans sw239)), hO, hX, hM⟩ ⟨rfl, rfl, rfl, rfl, rfl, rfl, rfl, rfl, trivial⟩ (.refl _) inferInstance
            · skip
              obtain ⟨b9, rfl, e2, rfl⟩ := hC
              replace e2 := e2.symm; subst e2
              refine dp_e1 rfl (opT_call rfl rfl rfl (copyM_ct hw235 _ l (hs.mono sw235) (by omega))) rfl rfl rfl rfl fun vm hw240 _ sw240 hC => ?_
              obtain ⟨_, ⟨hM, rfl⟩, rfl⟩ := hC
              refine dp_norm1 ?_
              refine dp_e1 rfl (opT_call rfl rfl rfl (its_ct hw240 _ b (hb.mono (sw235.trans sw240)) hsm)) rfl rfl rfl rfl fun vx hw241 _ sw241 hC => ?_
              obtain ⟨_, ⟨hX, rfl⟩, rfl⟩ := hC
              refine dp_norm1 ?_
              have hO := hO.mono (sw240.trans sw241)
              have hM := hM.mono sw241
              obtain ⟨o1, o2, rfl, _, _⟩ := id hO
              obtain ⟨x1, x2, rfl, _, _⟩ := id hX
              refine dp_ed1 rfl (opT_storeW rfl rfl rfl rfl (belt_one hO)) rfl rfl rfl rfl <| dp_p rfl (fun _ _ => opT_assign rfl) rfl rfl rfl <| dp_ed1 rfl (opT_storeW rfl rfl rfl rfl (belt_one hX)) rfl rfl rfl rfl <| dp_ed1 rfl (opT_storeW rfl rfl rfl rfl (one_trayL left)) rfl rfl rfl rfl <| dp_done1 ?_
              refine en_then <| ?_
              exact en_met (b9, b11, b12, o1, o2, x1, x2, vm, hw241) ⟨(sw235.trans (sw240.trans sw241)), hO, hX, hM⟩ ⟨rfl, rfl, rfl, rfl, rfl, rfl, rfl, rfl, trivial⟩ (.refl _) inferInstance
          · skip
            obtain ⟨b9, rfl, e2, rfl⟩ := hC
            replace e2 := e2.symm; subst e2
            refine dp_e1 rfl (opT_call rfl rfl rfl (cloneF_ct h _ b (hb.mono (.refl _)) hsm)) rfl rfl rfl rfl fun vo hw242 _ sw242 hC => ?_
            obtain ⟨_, ⟨hO, rfl⟩, rfl⟩ := hC
            refine dp_norm1 ?_
            refine dp_e1 rfl (opT_call rfl rfl rfl (copyM_ct hw242 _ l (hs.mono sw242) (by omega))) rfl rfl rfl rfl fun vm hw243 _ sw243 hC => ?_
            obtain ⟨_, ⟨hM, rfl⟩, rfl⟩ := hC
            refine dp_norm1 ?_
            refine dp_e1 rfl (opT_call rfl rfl rfl (its_ct hw243 _ b (hb.mono (sw242.trans sw243)) hsm)) rfl rfl rfl rfl fun vx hw244 _ sw244 hC => ?_
            obtain ⟨_, ⟨hX, rfl⟩, rfl⟩ := hC
            refine dp_norm1 ?_
            have hO := hO.mono (sw243.trans sw244)
            have hM := hM.mono sw244
            obtain ⟨o1, o2, rfl, _, _⟩ := id hO
            obtain ⟨x1, x2, rfl, _, _⟩ := id hX
            refine dp_ed1 rfl (opT_storeW rfl rfl rfl rfl (belt_one hO)) rfl rfl rfl rfl <| dp_p rfl (fun _ _ => opT_assign rfl) rfl rfl rfl <| dp_ed1 rfl (opT_storeW rfl rfl rfl rfl (belt_one hX)) rfl rfl rfl rfl <| dp_ed1 rfl (opT_storeW rfl rfl rfl rfl (one_trayL left)) rfl rfl rfl rfl <| dp_done1 ?_
            refine en_then <| ?_
            exact en_met (b9, b11, b12, o1, o2, x1, x2, vm, hw244) ⟨(sw242.trans (sw243.trans sw244)), hO, hX, hM⟩ ⟨rfl, rfl, rfl, rfl, rfl, rfl, rfl, rfl, trivial⟩ (.refl _) inferInstance
    · skip
      obtain ⟨b9, b11, b12, o1, o2, x1, x2, mv, h1⟩ := x
      obtain ⟨s1, hO, hX, hM⟩ := hx
      simp only at s1 hO hX hM
      change En _ _ _ [(2, .int .i64 z), (3, .slice sad l.length scp), (4, pt b4), (5, pt b5), (9, pt b9), (10, mv), (11, pt b11), (12, pt b12)] h1 [box b9 26 [o1, o2], box b11 59 [x1, x2], box b12 70 (trayL left)]
      have cC := checkR_ct h1 _ b hX
      have eA : atD b z = if checkD b = 0 then (if inD z 0 (b.nt - 1) = true then 0 else 2) else checkD b := rfl
      have eK : keptE b left = if checkD b = 0 then (if piecesD left = true then 0 else 4) else checkD b := rfl
      have eV : vD b left z = if keptE b left = 0 then (if inD z 0 (b.nt - 1) = true then 0 else 2) else keptE b left := rfl
      have eW : wD b left z l = if vD b left z = 0 then chosenE l else vD b left z := rfl
      have eB : bdE b z l = if atD b z = 0 then chosenE l else atD b z := rfl
      have eU := upE_w b left z l
      have kb51 := kb5.mono s1
      refine en_seq <| en_region <| en_det (opT_loadW_own rfl rfl) rfl <| en_calld (cC) rfl rfl rfl rfl <| en_det (opT_assign rfl) rfl <| en_nil <| en_then <| en_seq <| en_region <| en_det (opT_move rfl) rfl <| en_det (opT_assign rfl) rfl <| en_nil <| en_then <| ?_
      refine en_meet (ι := Unit) (fun _ => True) (fun _ => [(2, .int .i64 z), (3, .slice sad l.length scp), (4, pt b4), (5, pt b5), (9, pt b9), (10, mv), (11, pt b11), (12, pt b12), (13, .int .i64 (checkD b)), (14, .int .i64 (keptE b left))]) (fun _ => h1) (fun _ => [box b9 26 [o1, o2], box b11 59 [x1, x2], box b12 70 (trayL left)]) ?_ (fun _ _ => ?_)
      · skip
        have cP := piecesR_ct h1 left
        skip
        by_cases hz : checkD b = 0
        · rw [if_pos hz] at eK
          cases hp : piecesD left with
          | true =>
            rw [hp] at cP
            rw [hp, if_pos rfl] at eK
            refine en_seq <| en_region <| en_det (opT_move rfl) rfl <| en_det (opT_eql_t rfl rfl (by omega)) rfl <| en_det (opT_move rfl) rfl <| en_g_yes rfl rfl <| en_det (opT_loadW_own rfl (row_length _ _)) rfl <| en_g_yes rfl rfl <| en_calld (cP) rfl rfl rfl rfl <| en_g_yes rfl rfl <| ?_
            first | refine en_det (opT_not_t rfl) rfl ?_ | refine en_det (opT_not_f rfl) rfl ?_ | refine en_det (opT_not rfl) rfl ?_
            first | refine en_det (opT_pick_t rfl rfl) rfl ?_ | refine en_det (opT_pick_f rfl rfl) rfl ?_
            refine en_nil <| en_then <| en_cond_f rfl <| en_skip <| en_then <| ?_
            exact en_met () trivial ⟨rfl, rfl, rfl, rfl, rfl, rfl, rfl, rfl, rfl, gi rfl (by rw [eK, hz]), trivial⟩ (.refl _) inferInstance
          | false =>
            rw [hp] at cP
            rw [hp, if_neg (by simp)] at eK
            refine en_seq <| en_region <| en_det (opT_move rfl) rfl <| en_det (opT_eql_t rfl rfl (by omega)) rfl <| en_det (opT_move rfl) rfl <| en_g_yes rfl rfl <| en_det (opT_loadW_own rfl (row_length _ _)) rfl <| en_g_yes rfl rfl <| en_calld (cP) rfl rfl rfl rfl <| en_g_yes rfl rfl <| ?_
            first | refine en_det (opT_not_t rfl) rfl ?_ | refine en_det (opT_not_f rfl) rfl ?_ | refine en_det (opT_not rfl) rfl ?_
            first | refine en_det (opT_pick_t rfl rfl) rfl ?_ | refine en_det (opT_pick_f rfl rfl) rfl ?_
            refine en_nil <| en_then <| en_cond_t rfl <| en_region <| en_det (opT_assign rfl) rfl <| en_nil <| en_then <| ?_
            exact en_met () trivial ⟨rfl, rfl, rfl, rfl, rfl, rfl, rfl, rfl, rfl, gi rfl eK.symm, trivial⟩ (.refl _) inferInstance
        · rw [if_neg hz] at eK
          refine en_seq <| en_region <| en_det (opT_move rfl) rfl <| en_det (opT_eql_f rfl rfl (by omega)) rfl <| en_det (opT_move rfl) rfl <| en_g_no rfl rfl rfl <| en_g_no rfl rfl rfl <| en_g_no rfl rfl rfl <| ?_
          first | refine en_det (opT_pick_t rfl rfl) rfl ?_ | refine en_det (opT_pick_f rfl rfl) rfl ?_
          refine en_nil <| en_then <| en_cond_f rfl <| en_skip <| en_then <| ?_
          exact en_met () trivial ⟨rfl, rfl, rfl, rfl, rfl, rfl, rfl, rfl, rfl, gi rfl eK.symm, trivial⟩ (.refl _) inferInstance
      refine en_seq <| en_region <| en_det (opT_loadW_own rfl rfl) rfl <| en_det (opT_loadA_h rfl kb51 (row_length _ _)) rfl <| ?_
      refine en_call (clean16_ct h1 o1 o2 b left hO) rfl rfl rfl rfl fun v h2 Γ' s2 hv => ?_
      obtain ⟨rfl, rfl⟩ := hv
      refine en_norm ?_
      have kb52 := kb51.mono s2
      refine en_det (opT_move rfl) rfl <| en_det (opT_extract rfl rfl) rfl <| en_det (opT_extract rfl rfl) rfl <| en_det (opT_assign rfl) rfl <| en_det (opT_assign rfl) rfl <| en_nil <| en_then <| en_seq <| en_region <| en_det (opT_loadW_own rfl rfl) rfl <| en_det (opT_loadA_h rfl kb52 (row_length _ _)) rfl <| ?_
      refine en_call (held41_ct h2 o1 o2 b left (hO.mono s2)) rfl rfl rfl rfl fun v h3 Γ' s3 hv => ?_
      obtain ⟨rfl, tt, hsv, ee, rfl, hH1⟩ := hv.un
      refine en_norm ?_
      have kb53 := kb52.mono s3
      refine en_det (opT_move rfl) rfl <| en_det (opT_extract rfl rfl) rfl <| en_det (opT_extract rfl rfl) rfl <| en_det (opT_extract rfl rfl) rfl <| en_det (opT_assign rfl) rfl <| en_det (opT_assign rfl) rfl <| en_det (opT_assign rfl) rfl <| en_nil <| en_then <| en_seq <| en_region <| en_det (opT_loadW_own rfl rfl) rfl <| en_det (opT_loadA_h rfl kb53 (row_length _ _)) rfl <| ?_
      refine en_call (fewest_ct h3 o1 o2 b left (hO.mono (s2.trans s3))) rfl rfl rfl rfl fun v h4 Γ' s4 hv => ?_
      obtain ⟨rfl, fsv, fe, rfl, hF1⟩ := hv.un
      refine en_norm ?_
      have s14 := s2.trans (s3.trans s4)
      have hX4 := hX.mono s14
      clear hv
      refine en_det (opT_move rfl) rfl <| en_det (opT_extract rfl rfl) rfl <| en_det (opT_extract rfl rfl) rfl <| en_det (opT_assign rfl) rfl <| en_det (opT_assign rfl) rfl <| en_nil <| en_then <| en_seq <| en_seq <| en_region <| en_det (opT_move rfl) rfl <| en_det (opT_move rfl) rfl <| en_det (opT_neq_f rfl rfl (by omega)) rfl <| en_nil <| en_then <| en_cond_f rfl <| en_skip <| en_then <| ?_
      refine en_meet (ι := Heap) (fun x => Heap.sub h4 x) (fun _ => [(2, .int .i64 z), (3, .slice sad l.length scp), (4, pt b4), (5, pt b5), (9, pt b9), (10, mv), (11, pt b11), (12, pt b12), (13, .int .i64 (checkD b)), (14, .int .i64 (keptE b left))]) (fun x => x) (fun _ => [box b9 26 [o1, o2], box b11 59 [x1, x2], box b12 70 (trayL left)]) ?_ (fun h5 s5 => ?_)
      · skip
        by_cases hK : keptE b left = 0
        · obtain ⟨hz, hp⟩ := kept_zero hK
          have hk := check_ok.1 hz
          have hl := piecesD_iff.1 hp
          have hh5 := hk.h5
          have hn8' := hk.n8
          rw [if_pos hK]
          obtain ⟨hXT, hXH⟩ := belt_parts hX4
          have eD := dirty_neg (b := b) (left := left) (l := allH b)
          refine en_seq <| en_region <| en_det (opT_move rfl) rfl <| en_det (opT_neq_f rfl rfl (by omega)) rfl <| en_nil <| en_then <| en_cond_f rfl <| en_seq <| en_draw0 [0, 1, 3, 2, 4, 5] (by kernel_rfl) (by decide +kernel) (by decide +kernel) (by decide) <| dp_q rfl (opT_loadW_own rfl rfl) rfl rfl rfl <| dp_q rfl (opT_loadW_own rfl rfl) rfl rfl rfl <| dp_q rfl (opT_loadW_own rfl (row_length _ _)) rfl rfl rfl <| ?_
          refine dp_callq (handsR_ct h4 x1 x2 b.hand b.nh hXH (by omega)) rfl rfl rfl rfl rfl rfl rfl fun v111 h5 s5 hho => ?_; have cDd := dirtyR_ct h5 x1 x2 v111 b left (allH b) (hX4.mono s5) hk hl List.nodup_range (allH_lt b) (by rw [allH_len]; omega) hho
          refine dp_callq (p := fun v' _ => v' = .int .i64 (dirtyR b left (allH b))) cDd rfl rfl rfl rfl rfl rfl rfl fun v113 h6 s6 hv113 => ?_; subst hv113
          refine dp_p rfl (fun _ _ => opT_assign rfl) rfl rfl rfl <| dp_done0 <| en_then <| en_seq <| en_region <| en_det (opT_loadW_own rfl rfl) rfl <| en_det (opT_loadW_own rfl (row_length _ _)) rfl <| ?_
          refine en_call (fewestR_ct h6 x1 x2 b left (hX4.mono (s5.trans s6)) hk hl) rfl rfl rfl rfl fun v h7 Γ' s7 hv => ?_
          obtain ⟨rfl, sv2, L, rfl, hL1, hL2⟩ := few_same hK hF1 hv
          refine en_norm ?_
          have s47 := s5.trans (s6.trans s7)
          have cA := alike48_ct h7 fsv sv2 L L (hL1.mono s47) hL2
          rw [decide_eq_true rfl] at cA
          refine en_det (opT_move rfl) rfl <| en_det (opT_extract rfl rfl) rfl <| en_det (opT_extract rfl rfl) rfl <| en_det (opT_assign rfl) rfl <| en_det (opT_assign rfl) rfl <| en_nil <| en_then <| ?_
          skip
          cases hcl : cleanB b (keptD left) (allH b) with
          | true =>
            have hneg := eD.2 hcl
            have hfb : firstB b (keptD left) (allH b) = b.nt := by simpa [cleanB] using hcl
            rcases hH1 with ⟨_, _, rfl, rfl, rfl⟩ | ⟨_, hlt, _⟩ | ⟨h1', _⟩
            · refine en_seq <| en_seq <| en_region <| en_det (opT_move rfl) rfl <| en_det (opT_move rfl) rfl <| en_det (opT_lss_t rfl rfl (by omega)) rfl <| en_det (opT_neqB rfl rfl) rfl <| en_det (opT_move rfl) rfl <| en_g_yes rfl rfl <| en_det (opT_move rfl) rfl <| en_g_yes rfl rfl <| en_det (opT_move rfl) rfl <| en_g_yes rfl rfl <| en_det (opT_neq_f rfl rfl (by omega)) rfl <| ?_
              first | refine en_det (opT_pick_t rfl rfl) rfl ?_ | refine en_det (opT_pick_f rfl rfl) rfl ?_
              refine en_det (opT_move rfl) rfl <| en_g_yes rfl rfl <| en_det (opT_move rfl) rfl <| en_g_yes rfl rfl <| en_det (opT_move rfl) rfl <| en_g_yes rfl rfl <| en_calld (cA) rfl rfl rfl rfl <| en_g_yes rfl rfl <| ?_
              first | refine en_det (opT_not_t rfl) rfl ?_ | refine en_det (opT_not_f rfl) rfl ?_ | refine en_det (opT_not rfl) rfl ?_
              first | refine en_det (opT_pick_t rfl rfl) rfl ?_ | refine en_det (opT_pick_f rfl rfl) rfl ?_
              refine en_nil <| en_then <| en_cond_f rfl <| en_skip <| en_then <| en_seq <| en_region <| en_det (opT_move rfl) rfl <| en_det (opT_lss_t rfl rfl (by omega)) rfl <| en_nil <| en_then <| en_cond_t rfl <| en_seq <| en_region <| en_det (opT_move rfl) rfl <| en_det (opT_neq_f rfl rfl (by omega)) rfl <| en_det (opT_move rfl) rfl <| en_g_yes rfl rfl <| en_det (opT_move rfl) rfl <| en_g_yes rfl rfl <| en_det (opT_neq_f rfl rfl (by omega)) rfl <| ?_
              first | refine en_det (opT_pick_t rfl rfl) rfl ?_ | refine en_det (opT_pick_f rfl rfl) rfl ?_
              refine en_det (opT_move rfl) rfl <| en_g_yes rfl rfl <| en_det (opT_move rfl) rfl <| en_g_yes rfl rfl <| en_det (opT_len rfl) rfl <| en_g_yes rfl rfl <| en_det (opT_gtr_f rfl rfl (by omega)) rfl <| ?_
              first | refine en_det (opT_pick_t rfl rfl) rfl ?_ | refine en_det (opT_pick_f rfl rfl) rfl ?_
              refine en_nil <| en_then <| en_cond_f rfl <| en_skip <| en_then <| ?_
              exact en_met h7 s47 ⟨rfl, rfl, rfl, rfl, rfl, rfl, rfl, rfl, rfl, rfl, trivial⟩ (.refl _) inferInstance
            · omega
            · exact absurd hK h1'
          | false =>
            have hneg : ¬ dirtyR b left (allH b) < 0 := fun h => by rw [eD.1 h] at hcl; cases hcl
            rcases hH1 with ⟨_, hfb, _⟩ | ⟨_, hlt, rfl, rfl, hset⟩ | ⟨h1', _⟩
            · exfalso; simp [cleanB, hfb] at hcl
            · have hdr := (first_spec hlt).1
              have hup := (held_up hk (fun m hm => (hl m hm).1) hlt hdr).1
              rw [upN_eq, ← behS_all] at hup
              have eS : firstS b (keptD left) (allH b) = heldB b (keptD left) (firstB b (keptD left) (allH b)) (allH b) := by unfold firstS; rw [if_neg (by omega)]
              rw [eS] at hset
              have hS32 := heldB_lt b (keptD left) (firstB b (keptD left) (allH b)) (allH b)
              have eDv : dirtyR b left (allH b) = (firstB b (keptD left) (allH b) : Int) := by unfold dirtyR; rw [if_neg (by omega)]
              rw [eDv] at hneg
              generalize heldB b (keptD left) (firstB b (keptD left) (allH b)) (allH b) = S at *
              have hbs : bitsOf (setI S) = S ∧ chosenE (setI S) = 0 := bits_set ⟨S, hS32⟩
              have hset7 := hset.mono (s4.trans s47)
              rw [eDv]
              generalize hT : firstB b (keptD left) (allH b) = TT at *
              refine en_seq <| en_seq <| en_region <| en_det (opT_move rfl) rfl <| en_det (opT_move rfl) rfl <| en_det (opT_lss_f rfl rfl (by omega)) rfl <| en_det (opT_neqB rfl rfl) rfl <| en_det (opT_move rfl) rfl <| en_g_yes rfl rfl <| en_det (opT_move rfl) rfl <| en_g_yes rfl rfl <| en_det (opT_move rfl) rfl <| en_g_yes rfl rfl <| en_det (opT_neq_f rfl rfl (by omega)) rfl <| ?_
              first | refine en_det (opT_pick_t rfl rfl) rfl ?_ | refine en_det (opT_pick_f rfl rfl) rfl ?_
              refine en_det (opT_move rfl) rfl <| en_g_yes rfl rfl <| en_det (opT_move rfl) rfl <| en_g_yes rfl rfl <| en_det (opT_move rfl) rfl <| en_g_yes rfl rfl <| en_calld (cA) rfl rfl rfl rfl <| en_g_yes rfl rfl <| ?_
              first | refine en_det (opT_not_t rfl) rfl ?_ | refine en_det (opT_not_f rfl) rfl ?_ | refine en_det (opT_not rfl) rfl ?_
              first | refine en_det (opT_pick_t rfl rfl) rfl ?_ | refine en_det (opT_pick_f rfl rfl) rfl ?_
              refine en_nil <| en_then <| en_cond_f rfl <| en_skip <| en_then <| en_seq <| en_region <| en_det (opT_move rfl) rfl <| en_det (opT_lss_f rfl rfl (by omega)) rfl <| en_nil <| en_then <| en_cond_f rfl <| en_seq <| en_region <| en_det (opT_move rfl) rfl <| ?_
              refine en_callq (numbers_ct h7 _ _ hset7 (setI_len _)) rfl rfl rfl rfl fun v150 h8 s8 hv150 => ?_
              have cSet := setR_ct h8 v150 _ hv150
              rw [if_pos hbs.2, hbs.1, hbs.2] at cSet
              have hX8 := hX4.mono (s47.trans s8)
              obtain ⟨_, hXH8⟩ := belt_parts hX8
              have cN := needR_ct h8 x1 x2 b left TT S hX8 hk hl hlt hS32
              refine en_calld (cSet) rfl rfl rfl rfl <| en_det (opT_move rfl) rfl <| en_det (opT_extract rfl rfl) rfl <| en_det (opT_extract rfl rfl) rfl <| en_det (opT_assign rfl) rfl <| en_det (opT_assign rfl) rfl <| en_nil <| en_then <| en_seq <| en_draw0 [0, 1, 2, 3, 4, 5, 6, 7, 8, 9, 10, 11, 12, 13, 14, 15, 17, 18, 20, 21, 16, 19, 22, 23, 24] (by kernel_rfl) (by decide +kernel) (by decide +kernel) (by decide) <| dp_p rfl (fun _ _ => opT_move rfl) rfl rfl rfl <| dp_p rfl (fun _ _ => opT_neq_f rfl rfl (by omega)) rfl rfl rfl <| dp_p rfl (fun _ _ => opT_move rfl) rfl rfl rfl <| dp_q_yes rfl rfl rfl (opT_move rfl) rfl rfl rfl <| dp_q_yes rfl rfl rfl (opT_move rfl) rfl rfl rfl <| dp_q_yes rfl rfl rfl (opT_neq_f rfl rfl (by omega)) rfl rfl rfl <| ?_
              first | refine dp_p rfl (fun _ _ => opT_pick_t rfl rfl) rfl rfl rfl ?_ | refine dp_p rfl (fun _ _ => opT_pick_f rfl rfl) rfl rfl rfl ?_
              refine dp_p rfl (fun _ _ => opT_move rfl) rfl rfl rfl <| dp_q_yes rfl rfl rfl (opT_move rfl) rfl rfl rfl <| dp_q_yes rfl rfl rfl (opT_neq_f rfl rfl (by omega)) rfl rfl rfl <| ?_
              first | refine dp_p rfl (fun _ _ => opT_pick_t rfl rfl) rfl rfl rfl ?_ | refine dp_p rfl (fun _ _ => opT_pick_f rfl rfl) rfl rfl rfl ?_
              refine dp_p rfl (fun _ _ => opT_move rfl) rfl rfl rfl <| dp_q_yes rfl rfl rfl (opT_loadW_own rfl rfl) rfl rfl rfl <| dp_q_yes rfl rfl rfl (opT_loadW_own rfl (row_length _ _)) rfl rfl rfl <| dp_q_yes rfl rfl rfl (opT_move rfl) rfl rfl rfl <| dp_q_yes rfl rfl rfl (opT_move rfl) rfl rfl rfl <| dp_q_yes rfl rfl rfl (opT_loadW_own rfl rfl) rfl rfl rfl <| dp_q_yes rfl rfl rfl (opT_loadW_own rfl rfl) rfl rfl rfl <| dp_q_yes rfl rfl rfl (opT_move rfl) rfl rfl rfl <| dp_q_yes rfl rfl rfl (opT_move rfl) rfl rfl rfl <| dp_q_yes rfl rfl rfl (opT_callw (cN) rfl rfl rfl) rfl rfl rfl <| ?_
              refine dp_callq_yes (handsR_ct h8 x1 x2 b.hand b.nh hXH8 (by omega)) rfl rfl rfl rfl rfl rfl rfl rfl rfl fun v173 h9 s9 hho => ?_; have cBh := behindR_ct h9 x1 x2 v173 b (allH b) TT S (hXH8.mono s9) hk.ok (allH_lt b) (by rw [allH_len]; omega) hho (by omega) hS32
              refine dp_callq_yes (p := fun v' _ => v' = .int .i64 (behS b (allH b) TT S)) cBh rfl rfl rfl rfl rfl rfl rfl rfl rfl fun v176 h10 s10 hv176 => ?_; subst hv176
              refine dp_q_yes rfl rfl rfl (opT_leq_f rfl rfl (by omega)) rfl rfl rfl <| ?_
              first | refine dp_p rfl (fun _ _ => opT_pick_t rfl rfl) rfl rfl rfl ?_ | refine dp_p rfl (fun _ _ => opT_pick_f rfl rfl) rfl rfl rfl ?_
              refine dp_done0 <| en_then <| en_cond_f rfl <| en_skip <| en_then <| ?_
              exact en_met h10 (s47.trans (s8.trans (s9.trans s10))) ⟨rfl, rfl, rfl, rfl, rfl, rfl, rfl, rfl, rfl, rfl, trivial⟩ (.refl _) inferInstance
            · exact absurd hK h1'
        · rw [if_neg hK]
          rcases hH1 with ⟨h1', _⟩ | ⟨h1', _⟩ | ⟨_, rfl, rfl, rfl⟩
          · exact absurd h1' hK
          · exact absurd h1' hK
          rcases hF1 with ⟨h1', _⟩ | ⟨h1', _⟩ | ⟨_, rfl, rfl⟩
          · exact absurd h1' hK
          · exact absurd h1' hK
          refine en_seq <| en_region <| en_det (opT_move rfl) rfl <| en_det (opT_neq_t rfl rfl (by omega)) rfl <| en_nil <| en_then <| en_cond_t rfl <| en_seq <| en_region <| en_det (opT_move rfl) rfl <| en_det (opT_move rfl) rfl <| en_det (opT_neq_f rfl rfl (by omega)) rfl <| en_det (opT_move rfl) rfl <| en_g_yes rfl rfl <| en_det (opT_move rfl) rfl <| en_g_yes rfl rfl <| en_det (opT_move rfl) rfl <| en_g_yes rfl rfl <| en_det (opT_neq_f rfl rfl (by omega)) rfl <| ?_
          first | refine en_det (opT_pick_t rfl rfl) rfl ?_ | refine en_det (opT_pick_f rfl rfl) rfl ?_
          refine en_det (opT_move rfl) rfl <| en_g_yes rfl rfl <| en_det (opT_move rfl) rfl <| ?_
          first | refine en_det (opT_pick_t rfl rfl) rfl ?_ | refine en_det (opT_pick_f rfl rfl) rfl ?_
          refine en_det (opT_move rfl) rfl <| en_g_yes rfl rfl <| en_det (opT_move rfl) rfl <| en_g_yes rfl rfl <| en_det (opT_neq_f rfl rfl (by omega)) rfl <| ?_
          first | refine en_det (opT_pick_t rfl rfl) rfl ?_ | refine en_det (opT_pick_f rfl rfl) rfl ?_
          refine en_det (opT_move rfl) rfl <| en_g_yes rfl rfl <| en_det (opT_move rfl) rfl <| en_g_yes rfl rfl <| en_det (opT_len rfl) rfl <| en_g_yes rfl rfl <| en_det (opT_move rfl) rfl <| en_g_yes rfl rfl <| en_det (opT_len rfl) rfl <| en_g_yes rfl rfl <| en_det (opT_add rfl rfl (by constructor <;> omega)) rfl <| en_g_yes rfl rfl <| en_det (opT_gtr_f rfl rfl (by omega)) rfl <| ?_
          first | refine en_det (opT_pick_t rfl rfl) rfl ?_ | refine en_det (opT_pick_f rfl rfl) rfl ?_
          refine en_nil <| en_then <| en_cond_f rfl <| en_skip <| en_then <| ?_
          exact en_met h4 (.refl _) ⟨rfl, rfl, rfl, rfl, rfl, rfl, rfl, rfl, rfl, rfl, trivial⟩ (.refl _) inferInstance
      clear hH1 hF1
      have s15 := s14.trans s5
      replace k0 := cellH_sub (s1.trans s15) k0
      refine en_meet (ι := Unit) (fun _ => True) (fun _ => [(2, .int .i64 z), (3, .slice sad l.length scp), (4, pt b4), (5, pt b5), (9, pt b9), (10, mv), (11, pt b11), (12, pt b12), (13, .int .i64 (checkD b)), (14, .int .i64 (keptE b left)), (27, .bool (inD z 0 (b.nt - 1)))]) (fun _ => h5) (fun _ => [box b9 26 [o1, o2], box b11 59 [x1, x2], box b12 70 (trayL left)]) ?_ (fun _ _ => ?_)
      · skip
        skip
        by_cases i1 : z < 0
        · have e : inD z 0 (b.nt - 1) = false := by simp [inD]; omega
          refine en_region <| en_det (opT_move rfl) rfl <| en_det (opT_geq_f rfl rfl (by omega)) rfl <| en_det (opT_move rfl) rfl <| en_g_no rfl rfl rfl <| en_g_no rfl rfl rfl <| en_g_no rfl rfl rfl <| en_g_no rfl rfl rfl <| en_g_no rfl rfl rfl <| ?_
          first | refine en_det (opT_pick_t rfl rfl) rfl ?_ | refine en_det (opT_pick_f rfl rfl) rfl ?_
          refine en_det (opT_assign rfl) rfl <| en_nil <| en_then <| ?_
          exact en_met () trivial ⟨rfl, rfl, rfl, rfl, rfl, rfl, rfl, rfl, rfl, rfl, gb rfl e.symm, trivial⟩ (.refl _) inferInstance
        by_cases i2 : z < b.nt
        · have e : inD z 0 (b.nt - 1) = true := by simp [inD]; omega
          refine en_region <| en_det (opT_move rfl) rfl <| en_det (opT_geq_t rfl rfl (by omega)) rfl <| en_det (opT_move rfl) rfl <| en_g_yes rfl rfl <| en_det (opT_move rfl) rfl <| en_g_yes rfl rfl <| en_det (opT_fieldAddr rfl) rfl <| en_g_yes rfl rfl <| ?_
          first | refine en_det (opT_load_h rfl (by assumption)) rfl ?_ | refine en_det (opT_load_own rfl rfl) rfl ?_
          refine en_g_yes rfl rfl <| en_det (opT_len rfl) rfl <| en_g_yes rfl rfl <| en_det (opT_lss_t rfl rfl (by omega)) rfl <| ?_
          first | refine en_det (opT_pick_t rfl rfl) rfl ?_ | refine en_det (opT_pick_f rfl rfl) rfl ?_
          refine en_det (opT_assign rfl) rfl <| en_nil <| en_then <| ?_
          exact en_met () trivial ⟨rfl, rfl, rfl, rfl, rfl, rfl, rfl, rfl, rfl, rfl, gb rfl e.symm, trivial⟩ (.refl _) inferInstance
        · have e : inD z 0 (b.nt - 1) = false := by simp [inD]; omega
          refine en_region <| en_det (opT_move rfl) rfl <| en_det (opT_geq_t rfl rfl (by omega)) rfl <| en_det (opT_move rfl) rfl <| en_g_yes rfl rfl <| en_det (opT_move rfl) rfl <| en_g_yes rfl rfl <| en_det (opT_fieldAddr rfl) rfl <| en_g_yes rfl rfl <| ?_
          first | refine en_det (opT_load_h rfl (by assumption)) rfl ?_ | refine en_det (opT_load_own rfl rfl) rfl ?_
          refine en_g_yes rfl rfl <| en_det (opT_len rfl) rfl <| en_g_yes rfl rfl <| en_det (opT_lss_f rfl rfl (by omega)) rfl <| ?_
          first | refine en_det (opT_pick_t rfl rfl) rfl ?_ | refine en_det (opT_pick_f rfl rfl) rfl ?_
          refine en_det (opT_assign rfl) rfl <| en_nil <| en_then <| ?_
          exact en_met () trivial ⟨rfl, rfl, rfl, rfl, rfl, rfl, rfl, rfl, rfl, rfl, gb rfl e.symm, trivial⟩ (.refl _) inferInstance
      refine en_meet (ι := Unit) (fun _ => True) (fun _ => [(2, .int .i64 z), (3, .slice sad l.length scp), (4, pt b4), (5, pt b5), (9, pt b9), (10, mv), (11, pt b11), (12, pt b12), (13, .int .i64 (atD b z)), (14, .int .i64 (keptE b left)), (27, .bool (inD z 0 (b.nt - 1)))]) (fun _ => h5) (fun _ => [box b9 26 [o1, o2], box b11 59 [x1, x2], box b12 70 (trayL left)]) ?_ (fun _ _ => ?_)
      · skip
        skip
        by_cases hz : checkD b = 0
        · rw [if_pos hz] at eA
          cases hi : inD z 0 (b.nt - 1) with
          | true =>
            rw [hi, if_pos rfl] at eA
            refine en_seq <| en_region <| en_det (opT_move rfl) rfl <| en_det (opT_eql_t rfl rfl (by omega)) rfl <| en_det (opT_move rfl) rfl <| en_g_yes rfl rfl <| en_det (opT_move rfl) rfl <| en_g_yes rfl rfl <| ?_
            first | refine en_det (opT_not_t rfl) rfl ?_ | refine en_det (opT_not_f rfl) rfl ?_ | refine en_det (opT_not rfl) rfl ?_
            first | refine en_det (opT_pick_t rfl rfl) rfl ?_ | refine en_det (opT_pick_f rfl rfl) rfl ?_
            refine en_nil <| en_then <| en_cond_f rfl <| en_skip <| en_then <| ?_
            exact en_met () trivial ⟨rfl, rfl, rfl, rfl, rfl, rfl, rfl, rfl, gi rfl (by rw [eA, hz]), rfl, rfl, trivial⟩ (.refl _) inferInstance
          | false =>
            rw [hi, if_neg (by simp)] at eA
            refine en_seq <| en_region <| en_det (opT_move rfl) rfl <| en_det (opT_eql_t rfl rfl (by omega)) rfl <| en_det (opT_move rfl) rfl <| en_g_yes rfl rfl <| en_det (opT_move rfl) rfl <| en_g_yes rfl rfl <| ?_
            first | refine en_det (opT_not_t rfl) rfl ?_ | refine en_det (opT_not_f rfl) rfl ?_ | refine en_det (opT_not rfl) rfl ?_
            first | refine en_det (opT_pick_t rfl rfl) rfl ?_ | refine en_det (opT_pick_f rfl rfl) rfl ?_
            refine en_nil <| en_then <| en_cond_t rfl <| en_region <| en_det (opT_assign rfl) rfl <| en_nil <| en_then <| ?_
            exact en_met () trivial ⟨rfl, rfl, rfl, rfl, rfl, rfl, rfl, rfl, gi rfl eA.symm, rfl, rfl, trivial⟩ (.refl _) inferInstance
        · rw [if_neg hz] at eA
          refine en_seq <| en_region <| en_det (opT_move rfl) rfl <| en_det (opT_eql_f rfl rfl (by omega)) rfl <| en_det (opT_move rfl) rfl <| en_g_no rfl rfl rfl <| en_g_no rfl rfl rfl <| ?_
          first | refine en_det (opT_pick_t rfl rfl) rfl ?_ | refine en_det (opT_pick_f rfl rfl) rfl ?_
          refine en_nil <| en_then <| en_cond_f rfl <| en_skip <| en_then <| ?_
          exact en_met () trivial ⟨rfl, rfl, rfl, rfl, rfl, rfl, rfl, rfl, gi rfl eA.symm, rfl, rfl, trivial⟩ (.refl _) inferInstance
      refine en_meet (ι := Unit) (fun _ => True) (fun _ => [(2, .int .i64 z), (3, .slice sad l.length scp), (4, pt b4), (5, pt b5), (9, pt b9), (10, mv), (11, pt b11), (12, pt b12), (13, .int .i64 (atD b z)), (14, .int .i64 (vD b left z))]) (fun _ => h5) (fun _ => [box b9 26 [o1, o2], box b11 59 [x1, x2], box b12 70 (trayL left)]) ?_ (fun _ _ => ?_)
      · skip
        skip
        by_cases hz : keptE b left = 0
        · rw [if_pos hz] at eV
          cases hi : inD z 0 (b.nt - 1) with
          | true =>
            rw [hi, if_pos rfl] at eV
            refine en_seq <| en_region <| en_det (opT_move rfl) rfl <| en_det (opT_eql_t rfl rfl (by omega)) rfl <| en_det (opT_move rfl) rfl <| en_g_yes rfl rfl <| en_det (opT_move rfl) rfl <| en_g_yes rfl rfl <| ?_
            first | refine en_det (opT_not_t rfl) rfl ?_ | refine en_det (opT_not_f rfl) rfl ?_ | refine en_det (opT_not rfl) rfl ?_
            first | refine en_det (opT_pick_t rfl rfl) rfl ?_ | refine en_det (opT_pick_f rfl rfl) rfl ?_
            refine en_nil <| en_then <| en_cond_f rfl <| en_skip <| en_then <| ?_
            exact en_met () trivial ⟨rfl, rfl, rfl, rfl, rfl, rfl, rfl, rfl, rfl, gi rfl (by rw [eV, hz]), trivial⟩ (.refl _) inferInstance
          | false =>
            rw [hi, if_neg (by simp)] at eV
            refine en_seq <| en_region <| en_det (opT_move rfl) rfl <| en_det (opT_eql_t rfl rfl (by omega)) rfl <| en_det (opT_move rfl) rfl <| en_g_yes rfl rfl <| en_det (opT_move rfl) rfl <| en_g_yes rfl rfl <| ?_
            first | refine en_det (opT_not_t rfl) rfl ?_ | refine en_det (opT_not_f rfl) rfl ?_ | refine en_det (opT_not rfl) rfl ?_
            first | refine en_det (opT_pick_t rfl rfl) rfl ?_ | refine en_det (opT_pick_f rfl rfl) rfl ?_
            refine en_nil <| en_then <| en_cond_t rfl <| en_region <| en_det (opT_assign rfl) rfl <| en_nil <| en_then <| ?_
            exact en_met () trivial ⟨rfl, rfl, rfl, rfl, rfl, rfl, rfl, rfl, rfl, gi rfl eV.symm, trivial⟩ (.refl _) inferInstance
        · rw [if_neg hz] at eV
          refine en_seq <| en_region <| en_det (opT_move rfl) rfl <| en_det (opT_eql_f rfl rfl (by omega)) rfl <| en_det (opT_move rfl) rfl <| en_g_no rfl rfl rfl <| en_g_no rfl rfl rfl <| ?_
          first | refine en_det (opT_pick_t rfl rfl) rfl ?_ | refine en_det (opT_pick_f rfl rfl) rfl ?_
          refine en_nil <| en_then <| en_cond_f rfl <| en_skip <| en_then <| ?_
          exact en_met () trivial ⟨rfl, rfl, rfl, rfl, rfl, rfl, rfl, rfl, rfl, gi rfl eV.symm, trivial⟩ (.refl _) inferInstance
      refine en_seq <| en_region <| en_det (opT_loadW_own rfl rfl) rfl <| en_det (opT_move rfl) rfl <| ?_
      refine en_call (cut_ct h5 o1 o2 b z (hO.mono s15)) rfl rfl rfl rfl fun v h6 Γ' s6 hv => ?_
      obtain ⟨rfl, cv, rfl, hc1, hc0⟩ := hv.un
      refine en_norm ?_
      clear hv
      have s16 := s15.trans s6
      refine en_det (opT_move rfl) rfl <| en_det (opT_extract rfl rfl) rfl <| en_det (opT_extract rfl rfl) rfl <| en_det (opT_assign rfl) rfl <| en_det (opT_assign rfl) rfl <| en_nil <| en_then <| ?_
      refine en_meet (ι := Unit) (fun _ => True) (fun _ => [(2, .int .i64 z), (3, .slice sad l.length scp), (4, pt b4), (5, pt b5), (9, pt b9), (10, mv), (11, pt b11), (12, pt b12), (13, .int .i64 (atD b z)), (14, .int .i64 (vD b left z)), (28, cv)]) (fun _ => h6) (fun _ => [box b9 26 [o1, o2], box b11 59 [x1, x2], box b12 70 (trayL left)]) ?_ (fun _ _ => ?_)
      · skip
        skip
        by_cases ha : atD b z = 0
        · refine en_seq <| en_region <| en_det (opT_move rfl) rfl <| en_det (opT_move rfl) rfl <| en_det (opT_neq_f rfl rfl (by omega)) rfl <| en_det (opT_move rfl) rfl <| en_g_yes rfl rfl <| en_det (opT_move rfl) rfl <| en_g_yes rfl rfl <| en_det (opT_neq_f rfl rfl (by omega)) rfl <| en_g_yes rfl rfl <| en_det (opT_move rfl) rfl <| en_g_no rfl rfl rfl <| en_g_no rfl rfl rfl <| en_g_no rfl rfl rfl <| en_g_yes rfl rfl <| ?_
          first | refine en_det (opT_pick_t rfl rfl) rfl ?_ | refine en_det (opT_pick_f rfl rfl) rfl ?_
          first | refine en_det (opT_pick_t rfl rfl) rfl ?_ | refine en_det (opT_pick_f rfl rfl) rfl ?_
          refine en_nil <| en_then <| en_cond_f rfl <| en_skip <| en_then <| ?_
          exact en_met () trivial ⟨rfl, rfl, rfl, rfl, rfl, rfl, rfl, rfl, rfl, rfl, rfl, trivial⟩ (.refl _) inferInstance
        · have e1 := hc0 ha
          subst e1
          refine en_seq <| en_region <| en_det (opT_move rfl) rfl <| en_det (opT_move rfl) rfl <| en_det (opT_neq_f rfl rfl (by omega)) rfl <| en_det (opT_move rfl) rfl <| en_g_yes rfl rfl <| en_det (opT_move rfl) rfl <| en_g_yes rfl rfl <| en_det (opT_neq_t rfl rfl (by omega)) rfl <| en_g_yes rfl rfl <| en_det (opT_move rfl) rfl <| en_g_yes rfl rfl <| en_det (opT_move rfl) rfl <| en_g_yes rfl rfl <| en_det (opT_len rfl) rfl <| en_g_yes rfl rfl <| en_det (opT_gtr_f rfl rfl (by omega)) rfl <| en_g_yes rfl rfl <| ?_
          first | refine en_det (opT_pick_t rfl rfl) rfl ?_ | refine en_det (opT_pick_f rfl rfl) rfl ?_
          first | refine en_det (opT_pick_t rfl rfl) rfl ?_ | refine en_det (opT_pick_f rfl rfl) rfl ?_
          refine en_nil <| en_then <| en_cond_f rfl <| en_skip <| en_then <| ?_
          exact en_met () trivial ⟨rfl, rfl, rfl, rfl, rfl, rfl, rfl, rfl, rfl, rfl, rfl, trivial⟩ (.refl _) inferInstance
      refine en_meet (ι := Heap) (fun x => Heap.sub h6 x) (fun _ => [(2, .int .i64 z), (3, .slice sad l.length scp), (4, pt b4), (5, pt b5), (9, pt b9), (10, mv), (11, pt b11), (12, pt b12), (13, .int .i64 (atD b z)), (14, .int .i64 (vD b left z))]) (fun x => x) (fun _ => [box b9 26 [o1, o2], box b11 59 [x1, x2], box b12 70 (trayL left)]) ?_ (fun h7 s7 => ?_)
      · skip
        by_cases ha : atD b z = 0
        · obtain ⟨hz, hin⟩ := at_zero ha
          have hk := check_ok.1 hz
          have hn8' := hk.n8
          have hcv := hc1 ha
          obtain ⟨t, et, ht⟩ := at_nat hin
          rw [et, Int.toNat_natCast] at hcv
          have hS32 := heldB_lt b wholeD t (allH b)
          have hmq := most_eq hk ht
          generalize heldB b wholeD t (allH b) = S at *
          have hbs : bitsOf (setI S) = S ∧ chosenE (setI S) = 0 := bits_set ⟨S, hS32⟩
          refine en_seq <| en_region <| en_det (opT_move rfl) rfl <| en_det (opT_eql_t rfl rfl (by omega)) rfl <| en_nil <| en_then <| en_cond_t rfl <| en_seq <| en_region <| en_det (opT_move rfl) rfl <| ?_
          refine en_callq (numbers_ct h6 _ _ hcv (setI_len _)) rfl rfl rfl rfl fun v222 h7 s7 hv222 => ?_
          have cSet := setR_ct h7 v222 _ hv222
          rw [if_pos hbs.2, hbs.1, hbs.2] at cSet
          have hX7 := hX.mono (s16.trans s7)
          have cBd := boundsR_ct h7 x1 x2 b t S hX7 hk ht hS32
          have cM := mostR_ct h7 x1 x2 b t hX7 hk ht
          rw [← hmq] at cBd
          rw [← et] at cBd cM
          refine en_calld (cSet) rfl rfl rfl rfl <| en_det (opT_move rfl) rfl <| en_det (opT_extract rfl rfl) rfl <| en_det (opT_extract rfl rfl) rfl <| en_det (opT_assign rfl) rfl <| en_det (opT_assign rfl) rfl <| en_nil <| en_then <| en_seq <| en_draw0 [0, 1, 2, 3, 4, 5, 7, 8, 6, 9, 10, 11] (by kernel_rfl) (by decide +kernel) (by decide +kernel) (by decide) <| dp_p rfl (fun _ _ => opT_move rfl) rfl rfl rfl <| dp_p rfl (fun _ _ => opT_neq_f rfl rfl (by omega)) rfl rfl rfl <| dp_p rfl (fun _ _ => opT_move rfl) rfl rfl rfl <| dp_q_yes rfl rfl rfl (opT_loadW_own rfl rfl) rfl rfl rfl <| dp_q_yes rfl rfl rfl (opT_move rfl) rfl rfl rfl <| dp_q_yes rfl rfl rfl (opT_move rfl) rfl rfl rfl <| dp_q_yes rfl rfl rfl (opT_loadW_own rfl rfl) rfl rfl rfl <| dp_q_yes rfl rfl rfl (opT_move rfl) rfl rfl rfl <| dp_q_yes rfl rfl rfl (opT_callw (cBd) rfl rfl rfl) rfl rfl rfl <| dp_q_yes rfl rfl rfl (opT_callw (cM) rfl rfl rfl) rfl rfl rfl <| dp_q_yes rfl rfl rfl (opT_neq_f rfl rfl (by omega)) rfl rfl rfl <| ?_
          first | refine dp_p rfl (fun _ _ => opT_pick_t rfl rfl) rfl rfl rfl ?_ | refine dp_p rfl (fun _ _ => opT_pick_f rfl rfl) rfl rfl rfl ?_
          refine dp_done0 <| en_then <| en_cond_f rfl <| en_skip <| en_then <| ?_
          exact en_met h7 s7 ⟨rfl, rfl, rfl, rfl, rfl, rfl, rfl, rfl, rfl, rfl, trivial⟩ (.refl _) inferInstance
        · skip
          refine en_seq <| en_region <| en_det (opT_move rfl) rfl <| en_det (opT_eql_f rfl rfl (by omega)) rfl <| en_nil <| en_then <| en_cond_f rfl <| en_skip <| en_then <| ?_
          exact en_met h6 (.refl _) ⟨rfl, rfl, rfl, rfl, rfl, rfl, rfl, rfl, rfl, rfl, trivial⟩ (.refl _) inferInstance
      clear hc1 hc0
      have s17 := s16.trans s7
      have hs7 := hs.mono (s1.trans s17)
      refine en_seq <| en_region <| en_det (opT_move rfl) rfl <| ?_
      refine en_callq (numbers_ct h7 _ l hs7 (by omega)) rfl rfl rfl rfl fun v240 h8 s8 hv240 => ?_
      have cSet := setR_ct h8 v240 l hv240
      have s18 := s17.trans s8
      refine en_calld (cSet) rfl rfl rfl rfl <| en_det (opT_move rfl) rfl <| en_det (opT_extract rfl rfl) rfl <| en_det (opT_extract rfl rfl) rfl <| en_det (opT_assign rfl) rfl <| en_det (opT_assign rfl) rfl <| en_nil <| en_then <| ?_
      refine en_meet (ι := Unit) (fun _ => True) (fun _ => [(2, .int .i64 z), (3, .slice sad l.length scp), (4, pt b4), (5, pt b5), (9, pt b9), (10, mv), (11, pt b11), (12, pt b12), (13, .int .i64 (bdE b z l)), (14, .int .i64 (vD b left z)), (31, .int .i64 (if chosenE l = 0 then (bitsOf l : Int) else 0)), (32, .int .i64 (chosenE l))]) (fun _ => h8) (fun _ => [box b9 26 [o1, o2], box b11 59 [x1, x2], box b12 70 (trayL left)]) ?_ (fun _ _ => ?_)
      · skip
        skip
        by_cases ha : atD b z = 0
        · rw [if_pos ha] at eB
          refine en_seq <| en_region <| en_det (opT_move rfl) rfl <| en_det (opT_eql_t rfl rfl (by omega)) rfl <| en_nil <| en_then <| en_cond_t rfl <| en_region <| en_det (opT_move rfl) rfl <| en_det (opT_assign rfl) rfl <| en_nil <| en_then <| ?_
          exact en_met () trivial ⟨rfl, rfl, rfl, rfl, rfl, rfl, rfl, rfl, gi rfl eB.symm, rfl, rfl, rfl, trivial⟩ (.refl _) inferInstance
        · rw [if_neg ha] at eB
          refine en_seq <| en_region <| en_det (opT_move rfl) rfl <| en_det (opT_eql_f rfl rfl (by omega)) rfl <| en_nil <| en_then <| en_cond_f rfl <| en_skip <| en_then <| ?_
          exact en_met () trivial ⟨rfl, rfl, rfl, rfl, rfl, rfl, rfl, rfl, gi rfl eB.symm, rfl, rfl, rfl, trivial⟩ (.refl _) inferInstance
      refine en_meet (ι := Unit) (fun _ => True) (fun _ => [(2, .int .i64 z), (3, .slice sad l.length scp), (4, pt b4), (5, pt b5), (9, pt b9), (10, mv), (11, pt b11), (12, pt b12), (13, .int .i64 (bdE b z l)), (14, .int .i64 (wD b left z l)), (31, .int .i64 (if chosenE l = 0 then (bitsOf l : Int) else 0))]) (fun _ => h8) (fun _ => [box b9 26 [o1, o2], box b11 59 [x1, x2], box b12 70 (trayL left)]) ?_ (fun _ _ => ?_)
      · skip
        skip
        by_cases ha : vD b left z = 0
        · rw [if_pos ha] at eW
          refine en_seq <| en_region <| en_det (opT_move rfl) rfl <| en_det (opT_eql_t rfl rfl (by omega)) rfl <| en_nil <| en_then <| en_cond_t rfl <| en_region <| en_det (opT_move rfl) rfl <| en_det (opT_assign rfl) rfl <| en_nil <| en_then <| ?_
          exact en_met () trivial ⟨rfl, rfl, rfl, rfl, rfl, rfl, rfl, rfl, rfl, gi rfl eW.symm, rfl, trivial⟩ (.refl _) inferInstance
        · rw [if_neg ha] at eW
          refine en_seq <| en_region <| en_det (opT_move rfl) rfl <| en_det (opT_eql_f rfl rfl (by omega)) rfl <| en_nil <| en_then <| en_cond_f rfl <| en_skip <| en_then <| ?_
          exact en_met () trivial ⟨rfl, rfl, rfl, rfl, rfl, rfl, rfl, rfl, rfl, gi rfl eW.symm, rfl, trivial⟩ (.refl _) inferInstance
      have hX8 := hX.mono s18
      refine en_seq <| en_region <| en_det (opT_assign rfl) rfl <| en_det (opT_assign rfl) rfl <| en_nil <| en_then <| ?_
      refine en_meet (ι := Unit) (fun _ => True) (fun _ => [(2, .int .i64 z), (3, .slice sad l.length scp), (4, pt b4), (5, pt b5), (9, pt b9), (10, mv), (11, pt b11), (12, pt b12), (13, .int .i64 (bdE b z l)), (14, .int .i64 (wD b left z l)), (31, .int .i64 (if chosenE l = 0 then (bitsOf l : Int) else 0)), (33, .int .i64 (if bdE b z l = 0 then bdN b z.toNat (bitsOf l) else 0)), (34, .int .i64 0)]) (fun _ => h8) (fun _ => [box b9 26 [o1, o2], box b11 59 [x1, x2], box b12 70 (trayL left)]) ?_ (fun _ _ => ?_)
      · skip
        skip
        by_cases hbd : bdE b z l = 0
        · obtain ⟨ha, hch⟩ := bdE_zero hbd
          obtain ⟨hz, hin⟩ := at_zero ha
          have hk := check_ok.1 hz
          obtain ⟨t, et, ht⟩ := at_nat hin
          have hS32 := bitsOf_lt hch
          have cBd := boundsR_ct h8 x1 x2 b t (bitsOf l) hX8 hk ht hS32
          rw [← bdN_cut b t hS32, ← et] at cBd
          rw [if_pos hch, if_pos hbd, et, Int.toNat_natCast, ← et]
          refine en_seq <| en_region <| en_det (opT_move rfl) rfl <| en_det (opT_eql_t rfl rfl (by omega)) rfl <| en_nil <| en_then <| en_cond_t rfl <| en_region <| en_det (opT_loadW_own rfl rfl) rfl <| en_det (opT_move rfl) rfl <| en_det (opT_move rfl) rfl <| en_calld (cBd) rfl rfl rfl rfl <| en_det (opT_assign rfl) rfl <| en_nil <| en_then <| ?_
          exact en_met () trivial ⟨rfl, rfl, rfl, rfl, rfl, rfl, rfl, rfl, rfl, rfl, rfl, rfl, rfl, trivial⟩ (.refl _) inferInstance
        · rw [if_neg hbd]
          refine en_seq <| en_region <| en_det (opT_move rfl) rfl <| en_det (opT_eql_f rfl rfl (by omega)) rfl <| en_nil <| en_then <| en_cond_f rfl <| en_skip <| en_then <| ?_
          exact en_met () trivial ⟨rfl, rfl, rfl, rfl, rfl, rfl, rfl, rfl, rfl, rfl, rfl, rfl, rfl, trivial⟩ (.refl _) inferInstance
      refine en_meet (ι := Heap) (fun x => Heap.sub h8 x) (fun _ => [(2, .int .i64 z), (3, .slice sad l.length scp), (4, pt b4), (5, pt b5), (9, pt b9), (10, mv), (11, pt b11), (12, pt b12), (13, .int .i64 (bdE b z l)), (14, .int .i64 (upE b left z l)), (33, .int .i64 (if bdE b z l = 0 then bdN b z.toNat (bitsOf l) else 0)), (34, .int .i64 (if upE b left z l = 0 then upN b left z.toNat (bitsOf l) else 0))]) (fun x => x) (fun _ => [box b9 26 [o1, o2], box b11 59 [x1, x2], box b12 70 (trayL left)]) ?_ (fun h9 s9 => ?_)
      · skip
        skip
        by_cases hw : wD b left z l = 0
        · obtain ⟨hvv, hch⟩ := wD_zero hw
          obtain ⟨hK, hin⟩ := vD_zero hvv
          obtain ⟨hz, hp⟩ := kept_zero hK
          have hk := check_ok.1 hz
          have hl := piecesD_iff.1 hp
          have hh5 := hk.h5
          have hn8' := hk.n8
          obtain ⟨t, rfl, ht⟩ := at_nat hin
          have hS32 := bitsOf_lt hch
          have cN := needR_ct h8 x1 x2 b left t (bitsOf l) hX8 hk hl ht hS32
          obtain ⟨_, hXH8⟩ := belt_parts hX8
          rw [if_pos hw] at eU
          have hup := upN_eq b left t (bitsOf l)
          rw [← behS_all] at hup
          have hbb := behind_bound hk t (bitsOf l)
          rw [beh_eq, ← behS_all] at hbb
          have hnb := sumN_bound (n := 5) (f := fun m => if (bitsOf l).testBit m = true then keptD left (b.tray t) m else 0) (B := 60) fun m hm => by
            have := hk.tr t m ht hm
            have := hl m hm
            unfold keptD; split <;> omega
          change 0 ≤ inS (bitsOf l) (keptD left (b.tray t)) ∧ inS (bitsOf l) (keptD left (b.tray t)) ≤ 60 * ((5 : Nat) : Int) at hnb
          rw [if_pos hch]
          rw [Int.toNat_natCast] at eU ⊢
          generalize inS (bitsOf l) (keptD left (b.tray t)) = NN at *
          generalize hBB : behS b (allH b) t (bitsOf l) = BB at *
          generalize upN b left t (bitsOf l) = UU at *
          by_cases hlt : UU < 1
          · rw [if_pos hlt] at eU
            refine en_seq <| en_region <| en_det (opT_move rfl) rfl <| en_det (opT_eql_t rfl rfl (by omega)) rfl <| en_nil <| en_then <| en_cond_t rfl <| en_seq <| en_draw0 [0, 1, 2, 3, 5, 6, 8, 9, 4, 7, 10, 11, 12] (by kernel_rfl) (by decide +kernel) (by decide +kernel) (by decide) <| dp_q rfl (opT_loadW_own rfl rfl) rfl rfl rfl <| dp_q rfl (opT_loadW_own rfl (row_length _ _)) rfl rfl rfl <| dp_p rfl (fun _ _ => opT_move rfl) rfl rfl rfl <| dp_p rfl (fun _ _ => opT_move rfl) rfl rfl rfl <| dp_q rfl (opT_loadW_own rfl rfl) rfl rfl rfl <| dp_q rfl (opT_loadW_own rfl rfl) rfl rfl rfl <| dp_p rfl (fun _ _ => opT_move rfl) rfl rfl rfl <| dp_p rfl (fun _ _ => opT_move rfl) rfl rfl rfl <| dp_ed0 rfl (opT_callw (cN) rfl rfl rfl) rfl rfl rfl rfl <| ?_
            refine dp_callq (handsR_ct h8 x1 x2 b.hand b.nh hXH8 (by omega)) rfl rfl rfl rfl rfl rfl rfl fun v265 h9 s9 hho => ?_; have cBh := behindR_ct h9 x1 x2 v265 b (allH b) t (bitsOf l) (hXH8.mono s9) hk.ok (allH_lt b) (by rw [allH_len]; omega) hho (by omega) hS32; rw [hBB] at cBh
            refine dp_callq (p := fun v' _ => v' = .int .i64 BB) cBh rfl rfl rfl rfl rfl rfl rfl fun v268 h10 s10 hv268 => ?_; subst hv268
            refine dp_p rfl (fun _ _ => opT_sub rfl rfl (by constructor <;> omega)) rfl rfl rfl <| dp_p rfl (fun _ _ => opT_assign rfl) rfl rfl rfl <| dp_done0 <| en_then <| en_seq <| en_region <| en_det (opT_move rfl) rfl <| en_det (opT_lss_t rfl rfl (by omega)) rfl <| en_nil <| en_then <| en_cond_t rfl <| en_region <| en_det (opT_assign rfl) rfl <| en_det (opT_assign rfl) rfl <| en_nil <| en_then <| ?_
            exact en_met h10 (s9.trans s10) ⟨rfl, rfl, rfl, rfl, rfl, rfl, rfl, rfl, rfl, gi rfl eU.symm, rfl, gi rfl (by rw [eU]; simp), trivial⟩ (.refl _) inferInstance
          · rw [if_neg hlt] at eU
            refine en_seq <| en_region <| en_det (opT_move rfl) rfl <| en_det (opT_eql_t rfl rfl (by omega)) rfl <| en_nil <| en_then <| en_cond_t rfl <| en_seq <| en_draw0 [0, 1, 2, 3, 5, 6, 8, 9, 4, 7, 10, 11, 12] (by kernel_rfl) (by decide +kernel) (by decide +kernel) (by decide) <| dp_q rfl (opT_loadW_own rfl rfl) rfl rfl rfl <| dp_q rfl (opT_loadW_own rfl (row_length _ _)) rfl rfl rfl <| dp_p rfl (fun _ _ => opT_move rfl) rfl rfl rfl <| dp_p rfl (fun _ _ => opT_move rfl) rfl rfl rfl <| dp_q rfl (opT_loadW_own rfl rfl) rfl rfl rfl <| dp_q rfl (opT_loadW_own rfl rfl) rfl rfl rfl <| dp_p rfl (fun _ _ => opT_move rfl) rfl rfl rfl <| dp_p rfl (fun _ _ => opT_move rfl) rfl rfl rfl <| dp_ed0 rfl (opT_callw (cN) rfl rfl rfl) rfl rfl rfl rfl <| ?_
            refine dp_callq (handsR_ct h8 x1 x2 b.hand b.nh hXH8 (by omega)) rfl rfl rfl rfl rfl rfl rfl fun v265 h9 s9 hho => ?_; have cBh := behindR_ct h9 x1 x2 v265 b (allH b) t (bitsOf l) (hXH8.mono s9) hk.ok (allH_lt b) (by rw [allH_len]; omega) hho (by omega) hS32; rw [hBB] at cBh
            refine dp_callq (p := fun v' _ => v' = .int .i64 BB) cBh rfl rfl rfl rfl rfl rfl rfl fun v268 h10 s10 hv268 => ?_; subst hv268
            refine dp_p rfl (fun _ _ => opT_sub rfl rfl (by constructor <;> omega)) rfl rfl rfl <| dp_p rfl (fun _ _ => opT_assign rfl) rfl rfl rfl <| dp_done0 <| en_then <| en_seq <| en_region <| en_det (opT_move rfl) rfl <| en_det (opT_lss_f rfl rfl (by omega)) rfl <| en_nil <| en_then <| en_cond_f rfl <| en_skip <| en_then <| ?_
            exact en_met h10 (s9.trans s10) ⟨rfl, rfl, rfl, rfl, rfl, rfl, rfl, rfl, rfl, gi rfl (by rw [eU, hw]), rfl, gi rfl (by rw [eU]; simp; omega), trivial⟩ (.refl _) inferInstance
        · rw [if_neg hw] at eU
          refine en_seq <| en_region <| en_det (opT_move rfl) rfl <| en_det (opT_eql_f rfl rfl (by omega)) rfl <| en_nil <| en_then <| en_cond_f rfl <| en_skip <| en_then <| ?_
          exact en_met h8 (.refl _) ⟨rfl, rfl, rfl, rfl, rfl, rfl, rfl, rfl, rfl, gi rfl eU.symm, rfl, gi rfl (by rw [eU, if_neg hw]), trivial⟩ (.refl _) inferInstance
      have s19 := s18.trans s9
      have cF := bounds_ct h9 o1 o2 mv b z l (hO.mono s19) (hM.mono s19)
      have cU := fun h' (s : h9.sub h') => heldup_ct h' o1 o2 mv b left z l (hO.mono (s19.trans s)) (hM.mono (s19.trans s))
      clear eA eK eV eW eB eU
      generalize (if bdE b z l = 0 then bdN b z.toNat (bitsOf l) else 0) = K1 at cF ⊢
      generalize (if upE b left z l = 0 then upN b left z.toNat (bitsOf l) else 0) = K2 at cU ⊢
      generalize bdE b z l = E1 at cF ⊢
      generalize upE b left z l = E2 at cU ⊢
      refine en_seq <| en_region <| en_det (opT_loadW_own rfl rfl) rfl <| en_det (opT_move rfl) rfl <| en_det (opT_move rfl) rfl <| ?_
      refine en_call cF rfl rfl rfl rfl fun v h10 Γ' s10 hv => ?_
      obtain ⟨rfl, rfl⟩ := hv
      refine en_norm ?_
      have kb5' := kb51.mono (s19.trans s10)
      refine en_det (opT_move rfl) rfl <| en_det (opT_extract rfl rfl) rfl <| en_det (opT_extract rfl rfl) rfl <| en_det (opT_assign rfl) rfl <| en_det (opT_assign rfl) rfl <| en_nil <| en_then <| en_seq <| en_region <| en_det (opT_loadW_own rfl rfl) rfl <| en_det (opT_loadA_h rfl kb5' (row_length _ _)) rfl <| en_det (opT_move rfl) rfl <| en_det (opT_move rfl) rfl <| ?_
      refine en_call (cU h10 s10) rfl rfl rfl rfl fun v h11 Γ' s11 hv => ?_
      obtain ⟨rfl, rfl⟩ := hv
      refine en_norm ?_
      have s1b := s19.trans (s10.trans s11)
      have kb' := kb.mono (s1.trans s1b)
      have cE := same_ct h11 _ _ b (hO.mono s1b) (hb.mono (s1.trans s1b))
      have cA := alike57_ct h11 mv (.slice sad l.length scp) l l (hM.mono s1b) (hs.mono (s1.trans s1b))
      rw [decide_eq_true rfl] at cA
      refine en_det (opT_move rfl) rfl <| en_det (opT_extract rfl rfl) rfl <| en_det (opT_extract rfl rfl) rfl <| en_det (opT_assign rfl) rfl <| en_det (opT_assign rfl) rfl <| en_nil <| en_then <| en_seq <| en_region <| en_det (opT_move rfl) rfl <| en_det (opT_move rfl) rfl <| en_det (opT_eql_t rfl rfl (by omega)) rfl <| en_det (opT_move rfl) rfl <| en_g_yes rfl rfl <| en_det (opT_move rfl) rfl <| en_g_yes rfl rfl <| en_det (opT_move rfl) rfl <| en_g_yes rfl rfl <| en_det (opT_eql_t rfl rfl (by omega)) rfl <| ?_
      first | refine en_det (opT_pick_t rfl rfl) rfl ?_ | refine en_det (opT_pick_f rfl rfl) rfl ?_
      refine en_det (opT_move rfl) rfl <| en_g_yes rfl rfl <| en_det (opT_move rfl) rfl <| en_g_yes rfl rfl <| en_det (opT_move rfl) rfl <| en_g_yes rfl rfl <| en_det (opT_eql_t rfl rfl (by omega)) rfl <| ?_
      first | refine en_det (opT_pick_t rfl rfl) rfl ?_ | refine en_det (opT_pick_f rfl rfl) rfl ?_
      refine en_det (opT_move rfl) rfl <| en_g_yes rfl rfl <| en_det (opT_move rfl) rfl <| en_g_yes rfl rfl <| en_det (opT_move rfl) rfl <| en_g_yes rfl rfl <| en_det (opT_eql_t rfl rfl (by omega)) rfl <| ?_
      first | refine en_det (opT_pick_t rfl rfl) rfl ?_ | refine en_det (opT_pick_f rfl rfl) rfl ?_
      refine en_det (opT_move rfl) rfl <| en_g_yes rfl rfl <| en_det (opT_loadW_own rfl rfl) rfl <| en_g_yes rfl rfl <| en_det (opT_loadA_h rfl kb' rfl) rfl <| en_g_yes rfl rfl <| en_calld (cE) rfl rfl rfl rfl <| ?_
      first | refine en_det (opT_pick_t rfl rfl) rfl ?_ | refine en_det (opT_pick_f rfl rfl) rfl ?_
      refine en_det (opT_move rfl) rfl <| en_g_yes rfl rfl <| en_det (opT_move rfl) rfl <| en_g_yes rfl rfl <| en_det (opT_move rfl) rfl <| en_g_yes rfl rfl <| en_calld (cA) rfl rfl rfl rfl <| ?_
      first | refine en_det (opT_pick_t rfl rfl) rfl ?_ | refine en_det (opT_pick_f rfl rfl) rfl ?_
      refine en_det (opT_move rfl) rfl <| en_g_yes rfl rfl <| en_calld (awake_ct h11) rfl rfl rfl rfl <| ?_
      first | refine en_det (opT_pick_t rfl rfl) rfl ?_ | refine en_det (opT_pick_f rfl rfl) rfl ?_
      refine en_det (opT_assign rfl) rfl <| en_nil <| en_then <| en_ret <| ?_
      refine en_return (rs := [.tmp 8]) rfl (.cons (.tmp rfl) .nil) (s0.trans (s1.trans s1b)) (Γ1 := []) ⟨rfl, rfl⟩
end Go.Sx

/- BeltBounds: whatever the input, the law answers true; no condition. -/
namespace Go.Proofs.Ytennphpnklkogaa
open Go.Sx Go.ChangeShapes Go.WideShapes Go.ChangeAt Go.RowKit
set_option maxRecDepth 100000
theorem own_none : ownKnob Try.prog.godebug = none := by kernel_rfl
theorem laid_out : laidOutB Try.prog = true := by kernel_rfl
theorem cells_u8 : Try.prog.cellsOf 5 = 1 := by kernel_rfl
theorem bytes_u8 : Try.prog.bytesOf 5 = 1 := by kernel_rfl
theorem law_lifted (os : Os) (started : os.Started) (H : Type) (enc : TypeId × Value → H) :
    ReturnsInHanded {} Try.checked os 8 .any (Rows.beltBoundsSpec.pre6 enc Try.prog Try.f8 Rows.beltBoundsRow.domain false) (Rows.beltBoundsSpec.post enc Try.prog Try.f8 false true false false) := by
  refine returnsInHanded_of_change_sized (C := Try.checked) own_none started (by kernel_rfl) Try.func8
    (ChangeSpec.witness6 (enc := enc) (C := Try.checked) false ⟨#[], #[.agg #[.slice none 0 0, .slice none 0 0], .agg #[.int .i64 0, .int .i64 0, .int .i64 0, .int .i64 0, .int .i64 0], .int .i64 0, .slice none 0 0], []⟩ 8 (by kernel_rfl) (by kernel_rfl) (by kernel_rfl) (by kernel_rfl)) ?_
  intro W base args ds gs before hval0 hW _ hsz0 _
  have hsz : (DataW.weightsEach Try.prog (Try.f8.params.toList ++ Rows.beltBoundsSpec.plain.varTypes Try.prog) (ds ++ gs)).all (· ≤ reachBytes) = true := hsz0
  have hval : ∀ (j : Nat) t v, Try.f8.params[j]? = some t → args[j]? = some v → Value.okWide Try.prog W .any base t v := hval0
  clear hsz0 hval0
  have hW' := hW
  obtain ⟨p, q, hA0, hV, rfl, _, _⟩ := hW
  have hA : DataW.TrodAll enc Try.prog W 0 (fun _ => true) true Try.f8.params.toList args.toList ds p := hA0
  rw [Try.params8] at hA hval hsz
  obtain ⟨v1, vs1, d1, ds1, p1, q1, e1, rfl, rfl, h1, r1⟩ := trodAll_cons hA
  obtain ⟨v2, vs2, d2, ds2, p2, q2, rfl, rfl, rfl, h2, r2⟩ := trodAll_cons r1
  obtain ⟨v3, vs3, d3, ds3, p3, q3, rfl, rfl, rfl, h3, r3⟩ := trodAll_cons r2
  obtain ⟨v4, vs4, d4, ds4, p4, q4, rfl, rfl, rfl, h4, r4⟩ := trodAll_cons r3
  obtain ⟨rfl, rfl, rfl⟩ := trodAll_nil r4
  obtain rfl : args = #[v1, v2, v3, v4] := by cases args; simp_all
  obtain ⟨b1, hy1⟩ := open_belt (hval 0 26 v1 rfl rfl) h1
  obtain ⟨g2, rfl⟩ := open_tray Try.underlying31 Try.underlying3 (by kernel_rfl) (by kernel_rfl) (hval 1 31 v2 rfl rfl) h2
  obtain ⟨z3, rfl, rfl, rfl, _⟩ := open_int Try.underlying3 (hval 2 3 v3 rfl rfl) h3
  obtain ⟨l4, hy4⟩ := open_list Try.underlying80 Try.underlying86 (by kernel_rfl) (hval 3 80 v4 rfl rfl) h4
  exact law_calls laid_out (by kernel_rfl) rfl ⟨4, rfl, Try.underlying4⟩ rfl hW' (Go.Sx.boundslaw_ct _ v1 v4 b1 g2 z3 l4 hy1 hy4)
theorem beltBounds_holds : Rows.BeltBoundsSaid :=
  OpenClaim.holds_of_wide 8 Try.f8 rfl rfl rfl rfl rfl rfl rfl ⟨rfl, rfl, rfl, rfl, rfl⟩ rfl rfl rfl rfl rfl (by kernel_rfl) Try.func8 (by kernel_rfl)
    (of_decide_eq_true (by kernel_rfl)) (by unfold Func.isWrapper; first | (rw [if_pos (by decide +kernel)]; kernel_rfl) | (rw [if_neg (by decide +kernel)]; exact ⟨rfl, rfl⟩))
    (fun os started H enc _ => law_lifted os started H enc)
end Go.Proofs.Ytennphpnklkogaa
