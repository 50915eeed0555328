/- BeltBounds: for every input the law answers true and its arguments read as before; no condition. Part 3 of 6: W11, BRule, W12, W13, W14, W15, W16, W17, W18, W19, W20, W21, SepL, W22, W23. -/
import Derived.Test.YtennphpnklkogaaBeltBoundsPart2
set_option linter.unusedSimpArgs false
set_option linter.unusedVariables false
/- A sharing of a tray: the walk. -/
namespace Go.Sx
open Go.Proofs
set_option maxRecDepth 100000
attribute [local irreducible] Code.wpIn wpListIn Exit.then Exit.inBlock BQ Again Hd St En OpT box blk RQ BQ0 fmap own Desk

def leftI (l : Nat → Nat) : Nat → Int := fun j => (l j : Int)
theorem left_set {l : Nat → Int} {m : Nat} {v : Int} : (trayL l).set m (.int .i64 v) = trayL (fun j => if j = m then v else l j) := by
  unfold trayL; rw [row_set]
  refine row_congr fun j _ => ?_
  by_cases e : j = m <;> simp [e]
theorem zero_rows (nh : Nat) : List.replicate ((nh : Int).toNat * 5) (Value.int .i64 0) = rows nh 5 (icell fun _ _ => 0) := by
  rw [Int.toNat_natCast, replicate_rows]; rfl

def ShareR (nh d : Nat) (tv hv wv : Value) (H : Nat → HandD) (out : Nat → Nat → Int) (left : Nat → Nat) (held : Nat) (v : Value) (Γ' : List HP) : Prop :=
  ∃ bo, v = .tuple #[.slice (some ⟨bo, 0, none⟩) nh nh, .agg (trayL (leftI left)).toArray, .int .i64 held] ∧ Γ' = [box bo 31 (rows nh 5 (icell out)), Desk d tv hv wv H]

theorem share_ct (h : Heap) (d nh nt tray : Nat) (tv hv wv hdv : Value) (T : Nat → Nat → Int) (H : Nat → HandD) (hands : List Nat) (want : (Nat → Int) → Nat → Int) (w0 : Nat → Nat) (h5 : nh ≤ 5) (hlt : ∀ x ∈ hands, x < nh) (hlen : hands.length ≤ 1000) (ok : ∀ i, i < nh → OKH (H i)) (htr : tray < nt) (hnt : nt ≤ 1000)
    (hT : IsTrays h tv nt T) (hH : IsHands h hv nh H) (hhd : IsInts h hdv (natsI hands)) (hW : Want h wv want) (hTb : ∀ j, j < 5 → 0 ≤ T tray j ∧ T tray j ≤ 60) (hw0 : ∀ m, m < 5 → want (T tray) m = (w0 m : Int) ∧ w0 m ≤ 60) :
    CT Try.prog 101 [.pointer (some ⟨d, 0, none⟩), .int .i64 tray, hdv] h [Desk d tv hv wv H]
      (fun v _ Γ' => ShareR nh d tv hv wv H (shareS (fun i m => (H i).takes m) (fun i => forceD (H i) tray) hands w0 5).1 (shareS (fun i m => (H i).takes m) (fun i => forceD (H i) tray) hands w0 5).2 (heldD (fun i m => (H i).takes m) (shareS (fun i m => (H i).takes m) (fun i => forceD (H i) tray) hands w0 5).1 hands (shareS (fun i m => (H i).takes m) (fun i => forceD (H i) tray) hands w0 5).2) v Γ') := by
  have hH0 := hH
  have hhd0 := hhd
  obtain ⟨rv, ⟨_, had, hcp, rfl, hm1, hc1, hp1⟩, hr⟩ := hH
  obtain ⟨_, tad, tcp, rfl, tm1, tc1, tp1⟩ := hT
  obtain ⟨tb, toff, rfl, tcells⟩ := tp1 (by omega)
  have trow := tcells.row htr
  obtain ⟨wf, wcap, rfl, hwc⟩ := hW
  obtain ⟨iad, icp, rfl, hm2, hc2, hp2⟩ := hhd.shape
  have hlenI : (natsI hands).length = hands.length := by simp [natsI]
  simp only [hlenI] at hm2 hp2 hhd0
  refine ct_intro Try.func101 rfl rfl rfl rfl fun Φ => ?_
  refine en_seq <| en_region <| en_box rfl rfl rfl fun b3 => en_box rfl rfl rfl fun b4 => en_box rfl rfl rfl fun b5 => en_det (opT_assign rfl) rfl <| en_alloc rfl fun b7 => ?_
  refine en_det (opT_assign rfl) rfl <| en_nil <| en_then <| en_seq <| ?_
  refine en_pick (box b3 116 [.pointer (some ⟨d, 0, none⟩)]) ?_
  refine en_fzb fun h1 hs1 hb1 => ?_
  refine en_pick (box b4 3 [.int .i64 tray]) ?_
  refine en_fzb fun h2 hs2 hb2 => ?_
  refine en_pick (box b5 33 [.slice iad (natsI hands).length icp]) ?_
  refine en_fzb fun h3 hs3 hb3 => ?_
  rw [hlenI] at hb3
  have k3 : cellH h3 b3 0 = some (.pointer (some ⟨d, 0, none⟩)) := cellH_sub (hs2.trans hs3) (cellH_box hb1 rfl)
  have k4 : cellH h3 b4 0 = some (.int .i64 tray) := cellH_sub hs3 (cellH_box hb2 rfl)
  have k5 : cellH h3 b5 0 = some (.slice iad hands.length icp) := cellH_box hb3 rfl
  have hs03 : h.sub h3 := hs1.trans (hs2.trans hs3)
  clear hb1 hb2 hb3
  have hnh' : (nh : Int) ≤ 5 := by omega
  refine en_region <| ?_
  first | refine en_det (opT_desk0 rfl) rfl ?_ | refine en_det (opT_desk1 rfl) rfl ?_ | refine en_det (opT_desk3 rfl) rfl ?_ | refine en_det (opT_load_h rfl (by assumption)) rfl ?_ | refine en_det (opT_load_own rfl rfl) rfl ?_
  refine en_det (opT_nilCheck_p rfl) rfl <| en_det (opT_fieldAddr rfl) rfl <| en_det (opT_fieldAddr rfl) rfl <| ?_
  first | refine en_det (opT_desk0 rfl) rfl ?_ | refine en_det (opT_desk1 rfl) rfl ?_ | refine en_det (opT_desk3 rfl) rfl ?_ | refine en_det (opT_load_h rfl (by assumption)) rfl ?_ | refine en_det (opT_load_own rfl rfl) rfl ?_
  refine en_det (opT_len rfl) rfl <| ?_
  refine en_op (opT_make (T := 23) (e := 31) (sz := 5) (by_ := 40) (z0 := .int .i64 0) (m := (nh : Int)) rfl (by decide) rfl (by omega) (by omega) (by omega)) rfl fun _ _ _ _ ⟨bo, e1, e2, e3⟩ => ?_
  subst e1 e2 e3
  rw [zero_rows, Int.toNat_natCast]
  refine en_alloc rfl fun b9 => ?_
  refine en_det0 (opT_store1 rfl rfl rfl) <| en_nil <| en_then <| en_seq <| en_region <| en_alloc rfl fun b10 => ?_
  refine en_nil <| en_then <| en_seq <| en_seq <| ?_
  refine en_pick (box b9 23 [.slice (some ⟨bo, 0, none⟩) nh nh]) ?_
  refine en_fzb fun h4 hs4 hb4 => ?_
  have k9 : cellH h4 b9 0 = some (.slice (some ⟨bo, 0, none⟩) nh nh) := cellH_box hb4 rfl
  replace k3 := cellH_sub hs4 k3
  replace k4 := cellH_sub hs4 k4
  replace k5 := cellH_sub hs4 k5
  have hs04 := hs03.trans hs4
  clear hb4
  have trow4 : CellsH h4 tb (toff + tray * 5) (row 5 (icell T tray)) := trow.mono hs04
  refine en_region <| en_det (opT_move rfl) rfl <| en_nil <| en_then <| en_block <| ?_
  refine en_loop (fun k => k ≤ 5) (fun k : Nat => [(3, pt b3), (4, pt b4), (5, pt b5), (7, pt b7), (9, pt b9), (10, pt b10), (32, .int .i64 k)]) (fun _ => h4) (fun k => [box b10 31 (trayL fun j => if j < k then (w0 j : Int) else 0), box bo 31 (rows nh 5 (icell fun _ _ => 0)), box b7 31 (trayL fun _ => 0), Desk d (.slice (some ⟨tb, toff, none⟩) nt tcp) (.slice had nh hcp) (.func (.func wf) #[] wcap) H]) (fun k => 5 - k) 0 (by omega) ⟨rfl, rfl, rfl, rfl, rfl, rfl, rfl, trivial⟩ (.refl _) (tkAll _) fun k hk => ?_
  refine en_seq <| en_region <| ?_
  first | refine en_det (opT_lss_t rfl rfl (by omega)) rfl ?_ | refine en_det (opT_lss_f rfl rfl (by omega)) rfl ?_ | refine en_det (opT_lss rfl rfl) rfl ?_
  refine en_nil <| en_then <| en_seq <| ?_
  refine en_if rfl (fun hlt0 => ?_) (fun hlt0 => ?_)
  · skip
    have hk5 : k < 5 := by omega
    have cW := hwc h4 hs04 (T tray) k hk5 hTb
    rw [(hw0 k hk5).1] at cW
    refine en_skip <| en_then <| en_seq <| en_block <| en_seq <| en_region <| en_det (opT_move rfl) rfl <| en_det (opT_assign rfl) rfl <| en_nil <| en_then <| en_draw0 [0, 1, 2, 3, 4, 5, 6, 7, 8, 9, 10, 11, 12, 13, 14, 15, 16] (by kernel_rfl) (by decide +kernel) (by decide +kernel) (by decide) <| dp_p rfl (fun _ _ => opT_move rfl) rfl rfl rfl <| ?_
    first | refine dp_q rfl (opT_desk0 rfl) rfl rfl rfl ?_ | refine dp_q rfl (opT_desk1 rfl) rfl rfl rfl ?_ | refine dp_q rfl (opT_desk3 rfl) rfl rfl rfl ?_ | refine dp_q rfl (opT_load_h rfl (by assumption)) rfl rfl rfl ?_ | refine dp_q rfl (opT_load_own rfl rfl) rfl rfl rfl ?_
    refine dp_p rfl (fun _ _ => opT_nilCheck_p rfl) rfl rfl rfl <| dp_p rfl (fun _ _ => opT_fieldAddr rfl) rfl rfl rfl <| ?_
    first | refine dp_q rfl (opT_desk0 rfl) rfl rfl rfl ?_ | refine dp_q rfl (opT_desk1 rfl) rfl rfl rfl ?_ | refine dp_q rfl (opT_desk3 rfl) rfl rfl rfl ?_ | refine dp_q rfl (opT_load_h rfl (by assumption)) rfl rfl rfl ?_ | refine dp_q rfl (opT_load_own rfl rfl) rfl rfl rfl ?_
    first | refine dp_q rfl (opT_desk0 rfl) rfl rfl rfl ?_ | refine dp_q rfl (opT_desk1 rfl) rfl rfl rfl ?_ | refine dp_q rfl (opT_desk3 rfl) rfl rfl rfl ?_ | refine dp_q rfl (opT_load_h rfl (by assumption)) rfl rfl rfl ?_ | refine dp_q rfl (opT_load_own rfl rfl) rfl rfl rfl ?_
    refine dp_p rfl (fun _ _ => opT_nilCheck_p rfl) rfl rfl rfl <| dp_p rfl (fun _ _ => opT_fieldAddr rfl) rfl rfl rfl <| dp_p rfl (fun _ _ => opT_fieldAddr rfl) rfl rfl rfl <| ?_
    first | refine dp_q rfl (opT_desk0 rfl) rfl rfl rfl ?_ | refine dp_q rfl (opT_desk1 rfl) rfl rfl rfl ?_ | refine dp_q rfl (opT_desk3 rfl) rfl rfl rfl ?_ | refine dp_q rfl (opT_load_h rfl (by assumption)) rfl rfl rfl ?_ | refine dp_q rfl (opT_load_own rfl rfl) rfl rfl rfl ?_
    first | refine dp_q rfl (opT_desk0 rfl) rfl rfl rfl ?_ | refine dp_q rfl (opT_desk1 rfl) rfl rfl rfl ?_ | refine dp_q rfl (opT_desk3 rfl) rfl rfl rfl ?_ | refine dp_q rfl (opT_load_h rfl (by assumption)) rfl rfl rfl ?_ | refine dp_q rfl (opT_load_own rfl rfl) rfl rfl rfl ?_
    first | refine dp_p rfl (fun _ _ => opT_idx1 rfl rfl (by omega) (by omega)) rfl rfl rfl ?_ | refine dp_p rfl (fun _ _ => opT_idx (ks := 0) rfl rfl (by omega) (by omega)) rfl rfl rfl ?_
    first | refine dp_q rfl (opT_loadA_h rfl (by assumption) (by rfl)) rfl rfl rfl ?_ | refine dp_q rfl (opT_loadW_own rfl rfl) rfl rfl rfl ?_ | refine dp_q rfl (opT_loadA_own rfl) rfl rfl rfl ?_
    refine dp_p rfl (fun _ _ => opT_move rfl) rfl rfl rfl <| dp_ed0 rfl (opT_callw (cW) rfl rfl rfl) rfl rfl rfl rfl <| dp_p rfl (fun _ _ => opT_idxArr rfl rfl (by omega) (by omega)) rfl rfl rfl <| dp_td0 rfl (opT_store1s rfl rfl rfl (by simp [row_length]; omega)) rfl rfl rfl rfl rfl <| dp_done0 <| ?_
    have e : (fun j => if j = k then (w0 k : Int) else if j < k then (w0 j : Int) else 0) = fun j => if j < k + 1 then (w0 j : Int) else 0 := by
      funext j
      by_cases e1 : j = k
      · subst e1; simp
      · by_cases e2 : j < k
        · simp [e1, e2, show j < k + 1 by omega]
        · simp [e1, e2, show ¬ j < k + 1 by omega]
    rw [left_set, e]
    refine en_blk <| en_then <| en_region <| en_det (opT_add rfl rfl (by constructor <;> omega)) rfl <| en_det (opT_move rfl) rfl <| en_nil <| en_then <| ?_
    exact en_again (k + 1) (by omega) (by omega) ⟨rfl, rfl, rfl, rfl, rfl, rfl, gi rfl (by simp), trivial⟩ (.refl _) (tkAll _)
  · skip
    obtain rfl : k = 5 := by omega
    have e : trayL (fun j => if j < 5 then (w0 j : Int) else 0) = trayL (leftI w0) := row_congr fun j hj => by simp [hj, leftI]
    rw [e]
    refine en_exit <| en_then_exit <| en_then_exit <| en_blk_hit <| en_then <| en_seq <| en_region <| en_alloc rfl fun b12 => ?_
    refine en_nil <| en_then <| en_seq <| en_region <| en_alloc rfl fun b13 => ?_
    refine en_nil <| en_then <| en_seq <| en_region <| en_det (opT_makeFunc rfl rfl) rfl <| en_det0 (opT_store1 rfl rfl rfl) <| en_nil <| en_then <| en_seq <| en_seq <| en_region <| en_det (opT_move rfl) rfl <| en_nil <| en_then <| en_block <| ?_
    refine en_pick (box b13 44 [.func (.func 120) #[] #[pt b5, pt b3, pt b12, pt b9, pt b4, pt b13]]) ?_
    refine en_fzb fun h6 hs6 hb6 => ?_
    have k13 : cellH h6 b13 0 = some (.func (.func 120) #[] #[pt b5, pt b3, pt b12, pt b9, pt b4, pt b13]) := cellH_box hb6 rfl
    replace k3 := cellH_sub hs6 k3
    replace k4 := cellH_sub hs6 k4
    replace k5 := cellH_sub hs6 k5
    replace k9 := cellH_sub hs6 k9
    have hs06 := hs04.trans hs6
    clear hb6
    have cG := fun m out hm oko => give_ct bo b12 d nh tray b5 b3 b9 b4 b13 (.slice (some ⟨tb, toff, none⟩) nt tcp) _ (.func (.func wf) #[] wcap) _ H hands h5 hlt hlen ok (by omega) h6 (hH0.mono hs06) (hhd0.mono hs06) k5 k3 k9 k4 k13 6 m ⟨out, noneS⟩ hm oko (show unseen noneS < 6 by decide)
    have hfn : ∀ i, i < nh → 0 ≤ forceD (H i) tray := fun i hi => (forceD_bound (ok i hi) tray).1
    generalize htk0 : (fun i m => (H i).takes m) = tk at cG ⊢
    generalize hfo : (fun i => forceD (H i) tray) = fo at cG ⊢
    have hfo0 : ∀ i, i < nh → 0 ≤ fo i := fun i hi => by rw [← hfo]; exact hfn i hi
    have hok := fun k hk => shareS_ok (takes := tk) h5 hlt hfo0 w0 k hk
    refine en_loop (fun x : Nat × (Nat → Bool) => x.1 ≤ 5) (fun x => [(3, pt b3), (4, pt b4), (5, pt b5), (7, pt b7), (9, pt b9), (10, pt b10), (12, pt b12), (13, pt b13), (53, .int .i64 x.1)]) (fun _ => h6) (fun x => [box b12 39 (seenL x.2), box b10 31 (trayL (leftI (shareS tk fo hands w0 x.1).2)), box bo 31 (rows nh 5 (icell (shareS tk fo hands w0 x.1).1)), box b7 31 (trayL fun _ => 0), Desk d (.slice (some ⟨tb, toff, none⟩) nt tcp) (.slice had nh hcp) (.func (.func wf) #[] wcap) H]) (fun x => 5 - x.1) (0, noneS) (by simp) ⟨rfl, rfl, rfl, rfl, rfl, rfl, rfl, rfl, rfl, trivial⟩ (.refl _) (tkAll _) fun x hk => ?_
    obtain ⟨m, s0⟩ := x
    simp only at hk
    change En _ _ _ [(3, pt b3), (4, pt b4), (5, pt b5), (7, pt b7), (9, pt b9), (10, pt b10), (12, pt b12), (13, pt b13), (53, .int .i64 m)] h6 [box b12 39 (seenL s0), box b10 31 (trayL (leftI (shareS tk fo hands w0 m).2)), box bo 31 (rows nh 5 (icell (shareS tk fo hands w0 m).1)), box b7 31 (trayL fun _ => 0), Desk d (.slice (some ⟨tb, toff, none⟩) nt tcp) (.slice had nh hcp) (.func (.func wf) #[] wcap) H]
    refine en_seq <| en_region <| ?_
    first | refine en_det (opT_lss_t rfl rfl (by omega)) rfl ?_ | refine en_det (opT_lss_f rfl rfl (by omega)) rfl ?_ | refine en_det (opT_lss rfl rfl) rfl ?_
    refine en_nil <| en_then <| en_seq <| ?_
    refine en_if rfl (fun hlt2 => ?_) (fun hlt2 => ?_)
    · skip
      have hm : m < 5 := by omega
      obtain ⟨okm, hlm⟩ := hok m hk
      have hlmm := hlm m
      have hw60 := (hw0 m hm).2
      have hsucc : shareS tk fo hands w0 (m + 1) = ((pour tk fo hands m ((shareS tk fo hands w0 m).2 m) (shareS tk fo hands w0 m).1).1, leftU (shareS tk fo hands w0 m).2 m (pour tk fo hands m ((shareS tk fo hands w0 m).2 m) (shareS tk fo hands w0 m).1).2) := rfl
      generalize hL : (shareS tk fo hands w0 m).2 = L at hsucc hlmm ⊢
      generalize hO : (shareS tk fo hands w0 m).1 = O at okm hsucc ⊢
      have hself := leftU_self L m
      generalize hR : pour tk fo hands m (L m) O = R at hsucc
      refine en_skip <| en_then <| en_seq <| en_block <| en_seq <| en_region <| en_det (opT_move rfl) rfl <| en_det (opT_assign rfl) rfl <| en_nil <| en_then <| en_block <| ?_
      rw [← hself]
      refine en_loop (fun x : Nat × (Nat → Nat → Int) × (Nat → Bool) => x.1 ≤ 60 ∧ OutOK nh tk fo x.2.1 ∧ pour tk fo hands m x.1 x.2.1 = R) (fun x => [(3, pt b3), (4, pt b4), (5, pt b5), (7, pt b7), (9, pt b9), (10, pt b10), (12, pt b12), (13, pt b13), (53, .int .i64 m), (14, .int .i64 m)]) (fun _ => h6) (fun x => [box b12 39 (seenL x.2.2), box b10 31 (trayL (leftI (leftU L m x.1))), box bo 31 (rows nh 5 (icell x.2.1)), box b7 31 (trayL fun _ => 0), Desk d (.slice (some ⟨tb, toff, none⟩) nt tcp) (.slice had nh hcp) (.func (.func wf) #[] wcap) H]) (fun x => x.1) (L m, O, s0) ⟨by simp only; omega, okm, hR⟩ ⟨rfl, rfl, rfl, rfl, rfl, rfl, rfl, rfl, rfl, rfl, trivial⟩ (.refl _) (tkAll _) fun x hx => ?_
      obtain ⟨l, out, s1⟩ := x
      obtain ⟨hl60, oko, hpour⟩ := hx
      simp only at hl60 oko hpour
      change En _ _ _ [(3, pt b3), (4, pt b4), (5, pt b5), (7, pt b7), (9, pt b9), (10, pt b10), (12, pt b12), (13, pt b13), (53, .int .i64 m), (14, .int .i64 m)] h6 [box b12 39 (seenL s1), box b10 31 (trayL (leftI (leftU L m l))), box bo 31 (rows nh 5 (icell out)), box b7 31 (trayL fun _ => 0), Desk d (.slice (some ⟨tb, toff, none⟩) nt tcp) (.slice had nh hcp) (.func (.func wf) #[] wcap) H]
      have hg : (trayL (leftI (leftU L m l)))[m]? = some (.int .i64 (l : Int)) := by rw [row_get hm]; simp [leftI, leftU]
      skip
      cases l with
      | zero =>
        refine en_seq <| en_seq <| en_region <| en_det (opT_move rfl) rfl <| en_det (opT_idxArr rfl rfl (by omega) (by omega)) rfl <| en_det (opT_load_own rfl hg) rfl <| en_det (opT_gtr_f rfl rfl (by omega)) rfl <| en_nil <| en_then <| en_cond_f rfl <| en_exit <| en_then_exit <| en_then_exit <| en_blk_hit <| en_blk <| en_then <| en_region <| en_det (opT_add rfl rfl (by constructor <;> omega)) rfl <| en_det (opT_move rfl) rfl <| en_nil <| en_then <| ?_
        have e3 : shareS tk fo hands w0 (m + 1) = (out, leftU L m 0) := by rw [hsucc, ← hpour]; rfl
        have e4 := congrArg Prod.fst e3
        have e5 := congrArg Prod.snd e3
        simp only at e4 e5
        rw [← e4, ← e5]
        exact en_again (m + 1, s1) (by simp only; omega) (by simp only; omega) ⟨rfl, rfl, rfl, rfl, rfl, rfl, rfl, rfl, gi rfl (by simp), trivial⟩ (.refl _) (tkAll _)
      | succ l =>
        have hgv := give1_ok (takes := tk) (force := fo) h5 hlt hm oko
        have cg := cG m out hm oko
        change CT _ _ _ _ _ (DetG (.bool (give1 tk fo hands m out).1) (GiveΓ bo b12 d nh _ _ _ H (give1 tk fo hands m out).2)) at cg
        unfold pour at hpour
        cases hb : (give1 tk fo hands m out).1 with
        | true =>
          rw [hb] at cg
          rw [hb, if_pos rfl] at hpour
          have ok2 := hgv.ok
          generalize (give1 tk fo hands m out).2 = S2 at cg hpour ok2
          have e6 : trayL (fun j => if j = m then (l : Int) else leftI (leftU L m (l + 1)) j) = trayL (leftI (leftU L m l)) := row_congr fun j _ => by
            by_cases e7 : j = m <;> simp [e7, leftI, leftU]
          refine en_seq <| en_seq <| en_region <| en_det (opT_move rfl) rfl <| en_det (opT_idxArr rfl rfl (by omega) (by omega)) rfl <| en_det (opT_load_own rfl hg) rfl <| en_det (opT_gtr_t rfl rfl (by omega)) rfl <| en_nil <| en_then <| en_cond_t rfl <| en_skip <| en_then <| en_block <| en_seq <| en_region <| en_det (opT_build (cs := [.bool false, .bool false, .bool false, .bool false, .bool false]) rfl (by kernel_rfl)) rfl <| en_det0 (opT_storeW (us := seenL noneS) rfl rfl rfl rfl (by simp [seenL, row, Value.oneCell'])) <| en_nil <| en_then <| en_seq <| en_seq <| en_region <| ?_
          first | refine en_det (opT_desk0 rfl) rfl ?_ | refine en_det (opT_desk1 rfl) rfl ?_ | refine en_det (opT_desk3 rfl) rfl ?_ | refine en_det (opT_load_h rfl (by assumption)) rfl ?_ | refine en_det (opT_load_own rfl rfl) rfl ?_
          refine en_det (opT_move rfl) rfl <| en_det (opT_callg (cg) rfl rfl rfl) rfl <| ?_
          first | refine en_det (opT_not_t rfl) rfl ?_ | refine en_det (opT_not_f rfl) rfl ?_ | refine en_det (opT_not rfl) rfl ?_
          refine en_nil <| en_then <| en_cond_f rfl <| en_skip <| en_then <| en_region <| en_det (opT_move rfl) rfl <| en_det (opT_idxArr rfl rfl (by omega) (by omega)) rfl <| en_det (opT_load_own rfl hg) rfl <| en_det (opT_sub_to (c := (l : Int)) rfl rfl (by constructor <;> omega) (by omega)) rfl <| en_det (opT_idxArr rfl rfl (by omega) (by omega)) rfl <| en_det0 (opT_store1s rfl rfl rfl (by simp [row_length]; omega)) <| ?_
          rw [left_set, e6]
          refine en_nil <| en_blk <| en_then <| ?_
          exact en_again (l, S2.out, S2.seen) ⟨by simp only; omega, ok2, hpour⟩ (by simp only; omega) ⟨rfl, rfl, rfl, rfl, rfl, rfl, rfl, rfl, rfl, rfl, trivial⟩ (.refl _) inferInstance
        | false =>
          rw [hb] at cg
          rw [hb] at hpour
          simp only [Bool.false_eq_true, if_false] at hpour
          have hout := hgv.fail hb
          generalize (give1 tk fo hands m out).2 = S2 at cg hout
          refine en_seq <| en_seq <| en_region <| en_det (opT_move rfl) rfl <| en_det (opT_idxArr rfl rfl (by omega) (by omega)) rfl <| en_det (opT_load_own rfl hg) rfl <| en_det (opT_gtr_t rfl rfl (by omega)) rfl <| en_nil <| en_then <| en_cond_t rfl <| en_skip <| en_then <| en_block <| en_seq <| en_region <| en_det (opT_build (cs := [.bool false, .bool false, .bool false, .bool false, .bool false]) rfl (by kernel_rfl)) rfl <| en_det0 (opT_storeW (us := seenL noneS) rfl rfl rfl rfl (by simp [seenL, row, Value.oneCell'])) <| en_nil <| en_then <| en_seq <| en_seq <| en_region <| ?_
          first | refine en_det (opT_desk0 rfl) rfl ?_ | refine en_det (opT_desk1 rfl) rfl ?_ | refine en_det (opT_desk3 rfl) rfl ?_ | refine en_det (opT_load_h rfl (by assumption)) rfl ?_ | refine en_det (opT_load_own rfl rfl) rfl ?_
          refine en_det (opT_move rfl) rfl <| en_det (opT_callg (cg) rfl rfl rfl) rfl <| ?_
          first | refine en_det (opT_not_t rfl) rfl ?_ | refine en_det (opT_not_f rfl) rfl ?_ | refine en_det (opT_not rfl) rfl ?_
          refine en_nil <| en_then <| en_cond_t rfl <| en_exit <| en_then_exit <| en_blk_miss rfl <| en_then_exit <| en_blk_hit <| en_blk <| en_then <| en_region <| en_det (opT_add rfl rfl (by constructor <;> omega)) rfl <| en_det (opT_move rfl) rfl <| en_nil <| en_then <| ?_
          rw [hout]
          have e3 : shareS tk fo hands w0 (m + 1) = (out, leftU L m (l + 1)) := by rw [hsucc, ← hpour]
          have e4 := congrArg Prod.fst e3
          have e5 := congrArg Prod.snd e3
          simp only at e4 e5
          show En _ _ _ _ _ [box bo 31 (rows nh 5 (icell out)), _, _, _, _]
          rw [← e4, ← e5]
          exact en_again (m + 1, S2.seen) (by simp only; omega) (by simp only; omega) ⟨rfl, rfl, rfl, rfl, rfl, rfl, rfl, rfl, gi rfl (by simp), trivial⟩ (.refl _) inferInstance
    · skip
      obtain rfl : m = 5 := by omega
      obtain ⟨ok5, hl5⟩ := hok 5 (by omega)
      generalize (shareS tk fo hands w0 5).2 = L at hl5 ⊢
      generalize (shareS tk fo hands w0 5).1 = O at ok5 ⊢
      refine en_drop ?_
      generalize hfin : heldD tk O hands L = fin
      unfold heldD at hfin
      generalize hp : (fun m => decide (0 < L m)) = p at hfin
      refine en_exit <| en_then_exit <| en_then_exit <| en_blk_hit <| en_then <| en_seq <| en_region <| en_alloc rfl fun b15 => ?_
      refine en_nil <| en_then <| en_seq <| en_seq <| en_region <| ?_
      first | refine en_det (opT_loadW_own rfl rfl) rfl ?_ | refine en_det (opT_loadA_own rfl) rfl ?_
      refine en_det (opT_move rfl) rfl <| en_nil <| en_then <| en_block <| ?_
      refine en_loop (fun k => k ≤ 5) (fun k : Nat => [(3, pt b3), (4, pt b4), (5, pt b5), (7, pt b7), (9, pt b9), (10, pt b10), (15, pt b15), (71, .agg (trayL (leftI L)).toArray), (72, .int .i64 k)]) (fun _ => h6) (fun k => [box b15 137 [.int .i64 (bitsP p k 0)], box b10 31 (trayL (leftI L)), box bo 31 (rows nh 5 (icell O)), box b7 31 (trayL fun _ => 0), Desk d (.slice (some ⟨tb, toff, none⟩) nt tcp) (.slice had nh hcp) (.func (.func wf) #[] wcap) H]) (fun k => 5 - k) 0 (by omega) ⟨rfl, rfl, rfl, rfl, rfl, rfl, rfl, rfl, rfl, trivial⟩ (.refl _) (tkAll _) fun k hk => ?_
      refine en_seq <| en_region <| ?_
      first | refine en_det (opT_lss_t rfl rfl (by omega)) rfl ?_ | refine en_det (opT_lss_f rfl rfl (by omega)) rfl ?_ | refine en_det (opT_lss rfl rfl) rfl ?_
      refine en_nil <| en_then <| en_seq <| ?_
      refine en_if rfl (fun hlt6 => ?_) (fun hlt6 => ?_)
      · skip
        have hk5 : k < 5 := by omega
        have hl : leftI L k = (L k : Int) := rfl
        have hbs := bitsP_succ p k 0
        have hb32 := bitsP_lt (p := p) (k := k) (s := 0) (by omega) (by omega)
        have h1 := bit_or ⟨bitsP p k 0, hb32⟩ ⟨k, hk5⟩
        by_cases hpos : 0 < L k
        · have hpk : p k = true := by rw [← hp]; simpa using hpos
          unfold addBit at hbs
          rw [hpk, if_pos rfl] at hbs
          simp only at h1
          rw [← hbs] at h1
          skip
          refine en_skip <| en_then <| en_seq <| en_block <| en_seq <| en_region <| en_det (opT_move rfl) rfl <| en_det (opT_index rfl rfl (by omega) (by omega) (row_get hk5)) rfl <| en_det (opT_assign rfl) rfl <| en_det (opT_assign rfl) rfl <| en_nil <| en_then <| en_seq <| en_region <| en_det (opT_move rfl) rfl <| en_det (opT_gtr_t rfl rfl (by omega)) rfl <| en_nil <| en_then <| en_cond_t rfl <| en_draw0 [0, 1, 2, 3, 4] (by kernel_rfl) (by decide +kernel) (by decide +kernel) (by decide) <| dp_q rfl (opT_load_own rfl rfl) rfl rfl rfl <| dp_p rfl (fun _ _ => opT_move rfl) rfl rfl rfl <| dp_p rfl (fun _ _ => opT_shl rfl rfl (by omega)) rfl rfl rfl <| dp_p rfl (fun _ _ => (h1.1 ▸ opT_or rfl rfl)) rfl rfl rfl <| dp_td0 rfl (opT_store1 rfl rfl rfl) rfl rfl rfl rfl rfl <| dp_done0 <| en_blk <| en_then <| en_region <| en_det (opT_add rfl rfl (by constructor <;> omega)) rfl <| en_det (opT_move rfl) rfl <| en_nil <| en_then <| ?_
          exact en_again (k + 1) (by omega) (by omega) ⟨rfl, rfl, rfl, rfl, rfl, rfl, rfl, rfl, gi rfl (by simp), trivial⟩ (.refl _) (tkAll _)
        · have hpk : p k = false := by rw [← hp]; simpa using hpos
          unfold addBit at hbs
          rw [hpk] at hbs
          simp only [Bool.false_eq_true, if_false] at hbs
          rw [← hbs]
          refine en_skip <| en_then <| en_seq <| en_block <| en_seq <| en_region <| en_det (opT_move rfl) rfl <| en_det (opT_index rfl rfl (by omega) (by omega) (row_get hk5)) rfl <| en_det (opT_assign rfl) rfl <| en_det (opT_assign rfl) rfl <| en_nil <| en_then <| en_seq <| en_region <| en_det (opT_move rfl) rfl <| en_det (opT_gtr_f rfl rfl (by omega)) rfl <| en_nil <| en_then <| en_cond_f rfl <| en_skip <| en_blk <| en_then <| en_region <| en_det (opT_add rfl rfl (by constructor <;> omega)) rfl <| en_det (opT_move rfl) rfl <| en_nil <| en_then <| ?_
          exact en_again (k + 1) (by omega) (by omega) ⟨rfl, rfl, rfl, rfl, rfl, rfl, rfl, rfl, gi rfl (by simp), trivial⟩ (.refl _) (tkAll _)
      · skip
        obtain rfl : k = 5 := by omega
        have hs032 := bitsP_lt (p := p) (k := 5) (s := 0) (by omega) (by omega)
        generalize bitsP p 5 0 = s0 at hs032 hfin ⊢
        refine en_exit <| en_then_exit <| en_then_exit <| en_blk_hit <| en_then <| en_seq <| en_seq <| en_region <| en_det (opT_load_own rfl rfl) rfl <| en_det (opT_neq rfl rfl) rfl <| en_det (opT_assign rfl) rfl <| en_nil <| en_then <| en_block <| ?_
        have hfin0 : s0 = 0 → s0 = fin := fun e => by rw [← hfin, e, heldL_zero]
        refine en_loop (fun x : Bool × Nat × Nat => x.2.2 < 32 ∧ (x.1 = true → heldL tk O hands x.2.1 x.2.2 = fin ∧ 32 ≤ x.2.1 + x.2.2) ∧ (x.1 = false → x.2.2 = fin)) (fun x => [(3, pt b3), (4, pt b4), (5, pt b5), (7, pt b7), (9, pt b9), (10, pt b10), (15, pt b15), (18, .bool x.1)]) (fun _ => h6) (fun x => [box b15 137 [.int .i64 x.2.2], box b10 31 (trayL (leftI L)), box bo 31 (rows nh 5 (icell O)), box b7 31 (trayL fun _ => 0), Desk d (.slice (some ⟨tb, toff, none⟩) nt tcp) (.slice had nh hcp) (.func (.func wf) #[] wcap) H]) (fun x => if x.1 = true then 33 - x.2.2 else 0) (decide (s0 ≠ 0), 32, s0) ⟨hs032, fun _ => ⟨hfin, by simp only; omega⟩, fun e => hfin0 (by simpa using e)⟩ ⟨rfl, rfl, rfl, rfl, rfl, rfl, rfl, gb rfl (by simp), trivial⟩ (.refl _) (tkAll _) fun x hx => ?_
        obtain ⟨more, n, s⟩ := x
        obtain ⟨hs32, hmore, hno⟩ := hx
        simp only at hs32 hmore hno
        change En _ _ _ [(3, pt b3), (4, pt b4), (5, pt b5), (7, pt b7), (9, pt b9), (10, pt b10), (15, pt b15), (18, .bool more)] h6 [box b15 137 [.int .i64 s], box b10 31 (trayL (leftI L)), box bo 31 (rows nh 5 (icell O)), box b7 31 (trayL fun _ => 0), Desk d (.slice (some ⟨tb, toff, none⟩) nt tcp) (.slice had nh hcp) (.func (.func wf) #[] wcap) H]
        skip
        cases more with
        | false =>
          have hsf := hno rfl
          subst hsf
          refine en_seq <| en_seq <| en_region <| en_det (opT_move rfl) rfl <| en_nil <| en_then <| en_cond_f rfl <| en_exit <| en_then_exit <| en_then_exit <| en_blk_hit <| en_then <| en_seq <| ?_
          refine en_draw (Γ0 := [box b15 137 [.int .i64 s], box b10 31 (trayL (leftI L)), box bo 31 (rows nh 5 (icell O)), Desk d (.slice (some ⟨tb, toff, none⟩) nt tcp) (.slice had nh hcp) (.func (.func wf) #[] wcap) H]) (Γx := [box b7 31 (trayL fun _ => 0)]) [0, 1, 2, 3, 4, 5] (by kernel_rfl) (by decide +kernel) (by decide +kernel) (by decide) (inferInstance : Tk _ _ _).perm ?_
          refine dp_q rfl (opT_load_h rfl k9) rfl rfl rfl <| dp_q rfl (opT_loadW_own rfl rfl) rfl rfl rfl <| dp_q rfl (opT_load_own rfl rfl) rfl rfl rfl <| dp_p rfl (fun _ _ => opT_assign rfl) rfl rfl rfl <| ?_
          refine dp_sw rfl rfl rfl rfl rfl (one_trayL _) rfl rfl rfl <| dp_p rfl (fun _ _ => opT_assign rfl) rfl rfl rfl <| .done ?_
          refine en_norm ?_
          refine en_then <| en_ret <| ?_
          refine en_return (rs := [.tmp 6, .cell 7 31, .tmp 8]) rfl (.cons (.tmp rfl) (.cons (res_cellA rfl rfl) (.cons (.tmp rfl) .nil))) hs06 (Γ1 := [box bo 31 (rows nh 5 (icell O)), Desk d (.slice (some ⟨tb, toff, none⟩) nt tcp) (.slice had nh hcp) (.func (.func wf) #[] wcap) H]) ⟨bo, rfl, rfl⟩
        | true =>
          obtain ⟨hf2, hn2⟩ := hmore rfl
          refine en_seq <| en_seq <| en_region <| en_det (opT_move rfl) rfl <| en_nil <| en_then <| en_cond_t rfl <| en_skip <| en_then <| en_block <| en_seq <| en_region <| en_det (opT_load_own rfl rfl) rfl <| en_det (opT_assign rfl) rfl <| en_nil <| en_then <| en_seq <| en_seq <| en_region <| ?_
          first | refine en_det (opT_desk0 rfl) rfl ?_ | refine en_det (opT_desk1 rfl) rfl ?_ | refine en_det (opT_desk3 rfl) rfl ?_ | refine en_det (opT_load_h rfl (by assumption)) rfl ?_ | refine en_det (opT_load_own rfl rfl) rfl ?_
          refine en_det (opT_len rfl) rfl <| en_det (opT_move rfl) rfl <| en_nil <| en_then <| en_block <| ?_
          refine en_loop (fun i : Nat => i ≤ hands.length) (fun i : Nat => [(3, pt b3), (4, pt b4), (5, pt b5), (7, pt b7), (9, pt b9), (10, pt b10), (15, pt b15), (19, .int .i64 s), (87, .slice iad hands.length icp), (88, .int .i64 hands.length), (89, .int .i64 i)]) (fun _ => h6) (fun i => [box b15 137 [.int .i64 (heldR tk O s (hands.take i) s)], box b10 31 (trayL (leftI L)), box bo 31 (rows nh 5 (icell O)), box b7 31 (trayL fun _ => 0), Desk d (.slice (some ⟨tb, toff, none⟩) nt tcp) (.slice had nh hcp) (.func (.func wf) #[] wcap) H]) (fun i => hands.length - i) 0 (by omega) ⟨rfl, rfl, rfl, rfl, rfl, rfl, rfl, rfl, rfl, rfl, rfl, trivial⟩ (.refl _) (tkAll _) fun i hi => ?_
          refine en_seq <| en_region <| ?_
          first | refine en_det (opT_lss_t rfl rfl (by omega)) rfl ?_ | refine en_det (opT_lss_f rfl rfl (by omega)) rfl ?_ | refine en_det (opT_lss rfl rfl) rfl ?_
          refine en_nil <| en_then <| en_seq <| ?_
          refine en_if rfl (fun hlt9 => ?_) (fun hlt9 => ?_)
          · skip
            have hil : i < hands.length := by omega
            have hhn : hands[i] < nh := hlt _ (List.getElem_mem hil)
            obtain ⟨hb, hoff, rfl, hcells⟩ := hp1 (by omega)
            obtain ⟨ib, ioff, rfl, hints⟩ := hp2 (by omega)
            have hgi := cellH_sub hs06 (hints i hil)
            have e1 : (natsI hands)[i]'(by rw [hlenI]; exact hil) = ((hands[i] : Nat) : Int) := by simp [natsI]
            rw [e1] at hgi
            have htk : hands.take (i + 1) = hands.take i ++ [hands[i]] := List.take_succ_eq_append_getElem hil
            have happ := heldR_append tk O s (hands.take i) hands[i] s
            rw [← htk] at happ
            have hsl : (setL s).take (setV s).length = setL s := by simp [setV]
            have happ' := happ
            rw [← hsl] at happ'
            have hcur := (heldR_rng (takes := tk) (out := O) (was := s) (l := hands.take i) hs32).1
            generalize hands[i] = hd at hhn hgi happ happ'
            generalize heldR tk O s (hands.take i) s = cur at happ happ' hcur ⊢
            refine en_skip <| en_then <| en_seq <| en_block <| en_seq <| en_region <| ?_
            first | refine en_det (opT_idx1 rfl rfl (by omega) (by omega)) rfl ?_ | refine en_det (opT_idx (ks := 0) rfl rfl (by omega) (by omega)) rfl ?_
            first | refine en_det (opT_desk0 rfl) rfl ?_ | refine en_det (opT_desk1 rfl) rfl ?_ | refine en_det (opT_desk3 rfl) rfl ?_ | refine en_det (opT_load_h rfl (by assumption)) rfl ?_ | refine en_det (opT_load_own rfl rfl) rfl ?_
            refine en_alloc rfl fun b21 => ?_
            refine en_det0 (opT_store1 rfl rfl rfl) <| en_nil <| en_then <| en_seq <| en_region <| en_det (opT_move rfl) rfl <| ?_
            refine en_call (materials_ct h6 s hs32) rfl rfl rfl rfl fun v h7 Γ7 hs7 hR => ?_
            obtain ⟨bm, rfl, hit, rfl⟩ := hR
            refine en_norm ?_
            refine en_nil <| en_then <| en_block <| ?_
            refine en_range (fun j _ Γ' => Γ' = [box b21 3 [.int .i64 hd], box b15 137 [.int .i64 (heldH tk O hd ((setL s).take j) cur)], box b10 31 (trayL (leftI L)), box bo 31 (rows nh 5 (icell O)), box b7 31 (trayL fun _ => 0), Desk d (.slice (some ⟨tb, toff, none⟩) nt tcp) (.slice (some ⟨hb, hoff, none⟩) nh hcp) (.func (.func wf) #[] wcap) H]) (fun _ _ _ => False) rfl rfl hit rfl (fun l r Ψ i v h' Γ' hi hs hJ => ?_) (fun h' Γ' hs hJ => ?_) (fun c h' Γ' hs hX => ?_)
            · skip
              obtain rfl := hJ
              obtain ⟨m, rfl, hm', hm5⟩ := setV_get hi
              have hstep := heldH_append tk O hd ((setL s).take i) m cur
              rw [← take_succ_of hm'] at hstep
              have hcm := (heldH_rng (takes := tk) (out := O) (h := hd) (l := (setL s).take i) hcur).1
              have hce := cellH_sub (hs06.trans (hs7.trans hs)) (hcells.cell hhn (by omega : m < 9))
              have hcv : hcell (H hd) (rv hd) m = .bool (tk hd m) := by rw [← htk0]; simp [hcell, hm5]
              rw [hcv] at hce
              have k3' := cellH_sub (hs7.trans hs) k3
              have k9' := cellH_sub (hs7.trans hs) k9
              generalize heldH tk O hd ((setL s).take i) cur = cm at hstep hcm ⊢
              skip
              cases htm : tk hd m with
              | false =>
                rw [htm] at hce hstep
                simp only [Bool.false_eq_true, if_false] at hstep
                refine en_region <| en_det (opT_assign rfl) rfl <| en_nil <| en_begin <| en_block <| en_seq <| en_seq <| en_draw0 [0, 1, 2, 3, 4, 5, 6, 7, 8, 9, 10, 11] (by kernel_rfl) (by decide +kernel) (by decide +kernel) (by decide) <| ?_
                first | refine dp_q rfl (opT_desk0 rfl) rfl rfl rfl ?_ | refine dp_q rfl (opT_desk1 rfl) rfl rfl rfl ?_ | refine dp_q rfl (opT_desk3 rfl) rfl rfl rfl ?_ | refine dp_q rfl (opT_load_h rfl (by assumption)) rfl rfl rfl ?_ | refine dp_q rfl (opT_load_own rfl rfl) rfl rfl rfl ?_
                refine dp_p rfl (fun _ _ => opT_nilCheck_p rfl) rfl rfl rfl <| dp_p rfl (fun _ _ => opT_fieldAddr rfl) rfl rfl rfl <| dp_p rfl (fun _ _ => opT_fieldAddr rfl) rfl rfl rfl <| ?_
                first | refine dp_q rfl (opT_desk0 rfl) rfl rfl rfl ?_ | refine dp_q rfl (opT_desk1 rfl) rfl rfl rfl ?_ | refine dp_q rfl (opT_desk3 rfl) rfl rfl rfl ?_ | refine dp_q rfl (opT_load_h rfl (by assumption)) rfl rfl rfl ?_ | refine dp_q rfl (opT_load_own rfl rfl) rfl rfl rfl ?_
                refine dp_q rfl (opT_load_own rfl rfl) rfl rfl rfl <| dp_p rfl (fun _ _ => opT_move rfl) rfl rfl rfl <| ?_
                first | refine dp_p rfl (fun _ _ => opT_idx1 rfl rfl (by omega) (by omega)) rfl rfl rfl ?_ | refine dp_p rfl (fun _ _ => opT_idx (ks := 0) rfl rfl (by omega) (by omega)) rfl rfl rfl ?_
                refine dp_p rfl (fun _ _ => opT_fieldAddr rfl) rfl rfl rfl <| dp_p rfl (fun _ _ => opT_idxArr rfl rfl (by omega) (by omega)) rfl rfl rfl <| ?_
                first | refine dp_q rfl (opT_desk0 rfl) rfl rfl rfl ?_ | refine dp_q rfl (opT_desk1 rfl) rfl rfl rfl ?_ | refine dp_q rfl (opT_desk3 rfl) rfl rfl rfl ?_ | refine dp_q rfl (opT_load_h rfl (by assumption)) rfl rfl rfl ?_ | refine dp_q rfl (opT_load_own rfl rfl) rfl rfl rfl ?_
                first | refine dp_p rfl (fun _ _ => opT_not_t rfl) rfl rfl rfl ?_ | refine dp_p rfl (fun _ _ => opT_not_f rfl) rfl rfl rfl ?_ | refine dp_p rfl (fun _ _ => opT_not rfl) rfl rfl rfl ?_
                refine dp_done0 <| en_then <| en_cond_t rfl <| en_exit <| en_then_exit <| en_blk_hit <| ?_
                rw [← hstep]
                exact en_rq_n (.refl _) rfl
              | true =>
                rw [htm] at hce hstep
                simp only [if_true] at hstep
                generalize hq : (fun o => decide (0 < O hd o)) = q at hstep
                refine en_region <| en_det (opT_assign rfl) rfl <| en_nil <| en_begin <| en_block <| en_seq <| en_seq <| en_draw0 [0, 1, 2, 3, 4, 5, 6, 7, 8, 9, 10, 11] (by kernel_rfl) (by decide +kernel) (by decide +kernel) (by decide) <| ?_
                first | refine dp_q rfl (opT_desk0 rfl) rfl rfl rfl ?_ | refine dp_q rfl (opT_desk1 rfl) rfl rfl rfl ?_ | refine dp_q rfl (opT_desk3 rfl) rfl rfl rfl ?_ | refine dp_q rfl (opT_load_h rfl (by assumption)) rfl rfl rfl ?_ | refine dp_q rfl (opT_load_own rfl rfl) rfl rfl rfl ?_
                refine dp_p rfl (fun _ _ => opT_nilCheck_p rfl) rfl rfl rfl <| dp_p rfl (fun _ _ => opT_fieldAddr rfl) rfl rfl rfl <| dp_p rfl (fun _ _ => opT_fieldAddr rfl) rfl rfl rfl <| ?_
                first | refine dp_q rfl (opT_desk0 rfl) rfl rfl rfl ?_ | refine dp_q rfl (opT_desk1 rfl) rfl rfl rfl ?_ | refine dp_q rfl (opT_desk3 rfl) rfl rfl rfl ?_ | refine dp_q rfl (opT_load_h rfl (by assumption)) rfl rfl rfl ?_ | refine dp_q rfl (opT_load_own rfl rfl) rfl rfl rfl ?_
                refine dp_q rfl (opT_load_own rfl rfl) rfl rfl rfl <| dp_p rfl (fun _ _ => opT_move rfl) rfl rfl rfl <| ?_
                first | refine dp_p rfl (fun _ _ => opT_idx1 rfl rfl (by omega) (by omega)) rfl rfl rfl ?_ | refine dp_p rfl (fun _ _ => opT_idx (ks := 0) rfl rfl (by omega) (by omega)) rfl rfl rfl ?_
                refine dp_p rfl (fun _ _ => opT_fieldAddr rfl) rfl rfl rfl <| dp_p rfl (fun _ _ => opT_idxArr rfl rfl (by omega) (by omega)) rfl rfl rfl <| ?_
                first | refine dp_q rfl (opT_desk0 rfl) rfl rfl rfl ?_ | refine dp_q rfl (opT_desk1 rfl) rfl rfl rfl ?_ | refine dp_q rfl (opT_desk3 rfl) rfl rfl rfl ?_ | refine dp_q rfl (opT_load_h rfl (by assumption)) rfl rfl rfl ?_ | refine dp_q rfl (opT_load_own rfl rfl) rfl rfl rfl ?_
                first | refine dp_p rfl (fun _ _ => opT_not_t rfl) rfl rfl rfl ?_ | refine dp_p rfl (fun _ _ => opT_not_f rfl) rfl rfl rfl ?_ | refine dp_p rfl (fun _ _ => opT_not rfl) rfl rfl rfl ?_
                refine dp_done0 <| en_then <| en_cond_f rfl <| en_skip <| en_then <| en_seq <| en_region <| ?_
                first | refine en_det (opT_desk0 rfl) rfl ?_ | refine en_det (opT_desk1 rfl) rfl ?_ | refine en_det (opT_desk3 rfl) rfl ?_ | refine en_det (opT_load_h rfl (by assumption)) rfl ?_ | refine en_det (opT_load_own rfl rfl) rfl ?_
                refine en_det (opT_load_own rfl rfl) rfl <| ?_
                first | refine en_det (opT_idx1 rfl rfl (by omega) (by omega)) rfl ?_ | refine en_det (opT_idx (ks := 0) rfl rfl (by omega) (by omega)) rfl ?_
                refine en_det (opT_loadA_own (t := rows_take hhn) rfl) rfl <| en_det (opT_move rfl) rfl <| en_nil <| en_then <| en_block <| ?_
                refine en_loop (fun k => k ≤ 5) (fun k : Nat => [(15, pt b15), (111, .agg (row 5 (icell O hd)).toArray), (112, .int .i64 k)]) (fun _ => h') (fun k => [box b21 3 [.int .i64 hd], box b15 137 [.int .i64 (bitsP q k cm)], box b10 31 (trayL (leftI L)), box bo 31 (rows nh 5 (icell O)), box b7 31 (trayL fun _ => 0), Desk d (.slice (some ⟨tb, toff, none⟩) nt tcp) (.slice (some ⟨hb, hoff, none⟩) nh hcp) (.func (.func wf) #[] wcap) H]) (fun k => 5 - k) 0 (by omega) ⟨rfl, rfl, rfl, trivial⟩ (.refl _) (tkAll _) fun k hk => ?_
                refine en_seq <| en_region <| ?_
                first | refine en_det (opT_lss_t rfl rfl (by omega)) rfl ?_ | refine en_det (opT_lss_f rfl rfl (by omega)) rfl ?_ | refine en_det (opT_lss rfl rfl) rfl ?_
                refine en_nil <| en_then <| en_seq <| ?_
                refine en_if rfl (fun hlto => ?_) (fun hlto => ?_)
                · skip
                  have hk5 : k < 5 := by omega
                  have hbs := bitsP_succ q k cm
                  have hb32 := bitsP_lt (p := q) (k := k) (s := cm) (by omega) hcm
                  have h1 := bit_or ⟨bitsP q k cm, hb32⟩ ⟨k, hk5⟩
                  by_cases hpos : 0 < O hd k
                  · have hpk : q k = true := by rw [← hq]; simpa using hpos
                    unfold addBit at hbs
                    rw [hpk, if_pos rfl] at hbs
                    simp only at h1
                    rw [← hbs] at h1
                    skip
                    refine en_skip <| en_then <| en_seq <| en_block <| en_seq <| en_region <| en_det (opT_move rfl) rfl <| en_det (opT_index rfl rfl (by omega) (by omega) (row_get (g := icell O hd) hk5)) rfl <| en_det (opT_assign rfl) rfl <| en_det (opT_assign rfl) rfl <| en_nil <| en_then <| en_seq <| en_region <| en_det (opT_move rfl) rfl <| en_det (opT_gtr_t rfl rfl hpos) rfl <| en_nil <| en_then <| en_cond_t rfl <| en_draw0 [0, 1, 2, 3, 4] (by kernel_rfl) (by decide +kernel) (by decide +kernel) (by decide) <| dp_q rfl (opT_load_own rfl rfl) rfl rfl rfl <| dp_p rfl (fun _ _ => opT_move rfl) rfl rfl rfl <| dp_p rfl (fun _ _ => opT_shl rfl rfl (by omega)) rfl rfl rfl <| dp_p rfl (fun _ _ => (h1.1 ▸ opT_or rfl rfl)) rfl rfl rfl <| dp_td0 rfl (opT_store1 rfl rfl rfl) rfl rfl rfl rfl rfl <| dp_done0 <| en_blk <| en_then <| en_region <| en_det (opT_add rfl rfl (by constructor <;> omega)) rfl <| en_det (opT_move rfl) rfl <| en_nil <| en_then <| ?_
                    exact en_again (k + 1) (by omega) (by omega) ⟨rfl, rfl, gi rfl (by simp), trivial⟩ (.refl _) (tkAll _)
                  · have hpk : q k = false := by rw [← hq]; simpa using hpos
                    unfold addBit at hbs
                    rw [hpk] at hbs
                    simp only [Bool.false_eq_true, if_false] at hbs
                    rw [← hbs]
                    refine en_skip <| en_then <| en_seq <| en_block <| en_seq <| en_region <| en_det (opT_move rfl) rfl <| en_det (opT_index rfl rfl (by omega) (by omega) (row_get (g := icell O hd) hk5)) rfl <| en_det (opT_assign rfl) rfl <| en_det (opT_assign rfl) rfl <| en_nil <| en_then <| en_seq <| en_region <| en_det (opT_move rfl) rfl <| en_det (opT_gtr_f rfl rfl hpos) rfl <| en_nil <| en_then <| en_cond_f rfl <| en_skip <| en_blk <| en_then <| en_region <| en_det (opT_add rfl rfl (by constructor <;> omega)) rfl <| en_det (opT_move rfl) rfl <| en_nil <| en_then <| ?_
                    exact en_again (k + 1) (by omega) (by omega) ⟨rfl, rfl, gi rfl (by simp), trivial⟩ (.refl _) (tkAll _)
                · skip
                  obtain rfl : k = 5 := by omega
                  rw [← hstep]
                  refine en_exit <| en_then_exit <| en_then_exit <| en_blk_hit <| en_blk <| ?_
                  exact en_rq_n (.refl _) rfl
            · skip
              obtain rfl := hJ
              rw [← happ']
              refine en_blk <| en_blk <| en_then <| en_region <| en_det (opT_add rfl rfl (by constructor <;> omega)) rfl <| en_det (opT_move rfl) rfl <| en_nil <| en_then <| ?_
              exact en_again (i + 1) (by omega) (by omega) ⟨rfl, rfl, rfl, rfl, rfl, rfl, rfl, rfl, rfl, rfl, gi rfl (by simp), trivial⟩ (hs7.trans hs) inferInstance
            · exact hX.elim
          · skip
            obtain rfl : i = hands.length := by omega
            rw [List.take_length]
            have hrng := heldR_rng (takes := tk) (out := O) (was := s) (l := hands) hs32
            obtain ⟨n', rfl⟩ : ∃ n', n = n' + 1 := ⟨n - 1, by omega⟩
            unfold heldL at hf2
            generalize heldR tk O s hands s = cur at hf2 hrng
            refine en_exit <| en_then_exit <| en_then_exit <| en_blk_hit <| en_then <| en_region <| en_det (opT_load_own rfl rfl) rfl <| en_det (opT_move rfl) rfl <| en_det (opT_neq rfl rfl) rfl <| en_det (opT_assign rfl) rfl <| en_nil <| en_blk <| en_then <| ?_
            refine en_again (decide (cur ≠ s), n', cur) ⟨hrng.1, fun e => ?_, fun e => ?_⟩ ?_ ⟨rfl, rfl, rfl, rfl, rfl, rfl, rfl, gb rfl ?_, trivial⟩ (.refl _) (tkAll _)
            · have hne : cur ≠ s := by simpa using e
              rw [if_neg hne] at hf2
              exact ⟨hf2, by have := hrng.2; simp only; omega⟩
            · have heq : cur = s := by simpa using e
              rw [if_pos heq] at hf2
              rw [heq]; exact hf2
            · by_cases hne : cur = s
              · simp [hne]; omega
              · have := hrng.2
                simp [hne]; omega
            · have : ((cur : Int) ≠ (s : Int)) ↔ cur ≠ s := by omega
              simp only [this]
end Go.Sx

/- What hands take by the rule, in plain words. -/
namespace Go.Sx

structure RS where
  f : Int
  left : Nat → Nat → Int
  heaps : Nat → Nat → Int
def stepM (takes : Nat → Bool) (h t : Nat) (s : RS) (m : Nat) : RS :=
  if takes m = true then ⟨s.f - min s.f (s.left t m), upd2 s.left t m (s.left t m - min s.f (s.left t m)), upd2 s.heaps h m (s.heaps h m + min s.f (s.left t m))⟩ else s
def stepsM (takes : Nat → Bool) (h t : Nat) (s : RS) (k : Nat) : RS := (List.range k).foldl (stepM takes h t) s
def handT (H : Nat → HandD) (t : Nat) (s : (Nat → Nat → Int) × (Nat → Nat → Int)) (h : Nat) : (Nat → Nat → Int) × (Nat → Nat → Int) :=
  ((stepsM (H h).takes h t ⟨forceD (H h) t, s.1, s.2⟩ 5).left, (stepsM (H h).takes h t ⟨forceD (H h) t, s.1, s.2⟩ 5).heaps)
def trayT (H : Nat → HandD) (order : List Nat) (s : (Nat → Nat → Int) × (Nat → Nat → Int)) (t : Nat) : (Nat → Nat → Int) × (Nat → Nat → Int) := order.foldl (handT H t) s
def ruleN (H : Nat → HandD) (tray : Nat → Nat → Int) (order : List Nat) (k : Nat) : (Nat → Nat → Int) × (Nat → Nat → Int) := (List.range k).foldl (trayT H order) (tray, fun _ _ => 0)

theorem stepsM_succ (takes : Nat → Bool) (h t : Nat) (s : RS) (k : Nat) : stepsM takes h t s (k + 1) = stepM takes h t (stepsM takes h t s k) k := by
  simp [stepsM, List.range_succ, List.foldl_append]
theorem ruleN_succ (H : Nat → HandD) (tray : Nat → Nat → Int) (order : List Nat) (k : Nat) : ruleN H tray order (k + 1) = trayT H order (ruleN H tray order k) k := by
  simp [ruleN, List.range_succ, List.foldl_append]

/-- Between two hands. -/
structure RInv (nt nh : Nat) (c : Nat) (left heaps : Nat → Nat → Int) : Prop where
  l0 : ∀ i m, i < nt → m < 5 → 0 ≤ left i m ∧ left i m ≤ 60
  h0 : ∀ i m, i < nh → m < 5 → 0 ≤ heaps i m ∧ heaps i m ≤ 60 * c
/-- Between two materials. -/
structure MInv (nt nh : Nat) (c h k : Nat) (s : RS) : Prop where
  f0 : 0 ≤ s.f ∧ s.f ≤ 40
  l0 : ∀ i m, i < nt → m < 5 → 0 ≤ s.left i m ∧ s.left i m ≤ 60
  h0 : ∀ i m, i < nh → m < 5 → 0 ≤ s.heaps i m ∧ s.heaps i m ≤ 60 * (c + 1)
  h1 : ∀ m, k ≤ m → m < 5 → s.heaps h m ≤ 60 * c
theorem MInv.step {nt nh c h k t : Nat} {s : RS} {takes : Nat → Bool} (i : MInv nt nh c h k s) (ht : t < nt) (hh : h < nh) (hk : k < 5) : MInv nt nh c h (k + 1) (stepM takes h t s k) := by
  obtain ⟨f0, l0, h0, h1⟩ := i
  unfold stepM
  split
  · have a := l0 t k ht hk
    have b := h0 h k hh hk
    have b' := h1 k (Nat.le_refl _) hk
    refine ⟨by simp only; omega, fun x m hx hm => ?_, fun x m hx hm => ?_, fun m hm1 hm => ?_⟩
    · have := l0 x m hx hm
      simp only [upd2]
      split <;> omega
    · have := h0 x m hx hm
      simp only [upd2]
      split <;> omega
    · have := h1 m (by omega) hm
      simp only [upd2]
      split <;> omega
  · exact ⟨f0, l0, h0, fun m hm1 hm => h1 m (by omega) hm⟩
theorem MInv.start {nt nh c h : Nat} {f : Int} {left heaps : Nat → Nat → Int} (i : RInv nt nh c left heaps) (hf : 0 ≤ f ∧ f ≤ 40) (hh : h < nh) : MInv nt nh c h 0 ⟨f, left, heaps⟩ :=
  ⟨hf, i.l0, fun x m hx hm => by have := i.h0 x m hx hm; simp only; omega, fun m _ hm => (i.h0 h m hh hm).2⟩
theorem MInv.steps {nt nh c h t : Nat} {s : RS} {takes : Nat → Bool} (i : MInv nt nh c h 0 s) (ht : t < nt) (hh : h < nh) : ∀ k, k ≤ 5 → MInv nt nh c h k (stepsM takes h t s k)
  | 0, _ => i
  | k + 1, hk => by rw [stepsM_succ]; exact (MInv.steps i ht hh k (by omega)).step ht hh (by omega)
/-- A hand that has spent its force takes nothing more. -/
theorem steps_spent {takes : Nat → Bool} {h t : Nat} {s : RS} (hf : s.f = 0) (hl : ∀ m, m < 5 → 0 ≤ s.left t m) : ∀ m, m < 5 → stepM takes h t s m = s := fun m hm => by
  unfold stepM
  split
  · have h1 := hl m hm
    have h2 : min s.f (s.left t m) = 0 := by omega
    obtain ⟨f, l, p⟩ := s
    simp only at h2 hf ⊢
    rw [h2]
    congr 1
    · omega
    · funext a b; unfold upd2; split
      · rename_i e; obtain ⟨rfl, rfl⟩ := e; omega
      · rfl
    · funext a b; unfold upd2; split
      · rename_i e; obtain ⟨rfl, rfl⟩ := e; omega
      · rfl
  · rfl
theorem stepsM_spent {takes : Nat → Bool} {h t : Nat} {s : RS} {k : Nat} (hf : (stepsM takes h t s k).f = 0) (hl : ∀ m, m < 5 → 0 ≤ (stepsM takes h t s k).left t m) : ∀ j, k + j ≤ 5 → stepsM takes h t s (k + j) = stepsM takes h t s k
  | 0, _ => rfl
  | j + 1, hj => by
    rw [show k + (j + 1) = (k + j) + 1 by omega, stepsM_succ, stepsM_spent hf hl j (by omega)]
    exact steps_spent hf hl _ (by omega)
theorem RInv.hand {nt nh c t h : Nat} {H : Nat → HandD} {left heaps : Nat → Nat → Int} (i : RInv nt nh c left heaps) (ok : OKH (H h)) (ht : t < nt) (hh : h < nh) : RInv nt nh (c + 1) (handT H t (left, heaps) h).1 (handT H t (left, heaps) h).2 := by
  have hf : 0 ≤ forceD (H h) t ∧ forceD (H h) t ≤ 40 := ⟨(forceN_bound ok (t + 1)).1, (forceN_bound ok (t + 1)).2.1⟩
  have := (MInv.start i hf hh).steps (takes := (H h).takes) ht hh 5 (by omega)
  exact ⟨this.l0, fun x m hx hm => by have := this.h0 x m hx hm; show 0 ≤ _ ∧ _ ≤ 60 * ((c + 1 : Nat) : Int); simp only [handT]; omega⟩
end Go.Sx

/- What hands take by the rule: the walk. -/
namespace Go.Sx
open Go.Proofs
set_option maxRecDepth 100000
attribute [local irreducible] Code.wpIn wpListIn Exit.then Exit.inBlock BQ Again Hd St En OpT box blk RQ BQ0 fmap own Desk

theorem rule_ct (h : Heap) (d nh nt : Nat) (tv hv wv ov : Value) (T : Nat → Nat → Int) (H : Nat → HandD) (order : List Nat) (h5 : nh ≤ 1000) (hlt : ∀ x ∈ order, x < nh) (hlen : order.length ≤ 1000) (ok : ∀ i, i < nh → OKH (H i)) (hn0 : 0 < nt) (hnt : nt < 1000)
    (hT : IsTrays h tv nt T) (hH : IsHands h hv nh H) (ho : IsInts h ov (natsI order)) (hTb : ∀ i m, i < nt → m < 5 → 0 ≤ T i m ∧ T i m ≤ 60) :
    CT Try.prog 90 [.pointer (some ⟨d, 0, none⟩), ov] h [Desk d tv hv wv H]
      (fun v _ Γ' => ∃ bl bh, v = .tuple #[.slice (some ⟨bl, 0, none⟩) nt nt, .slice (some ⟨bh, 0, none⟩) nh nh] ∧ Γ' = [box bl 31 (rows nt 5 (icell (ruleN H T order nt).1)), box bh 31 (rows nh 5 (icell (ruleN H T order nt).2)), Desk d tv hv wv H]) := by
  have hH0 := hH
  have hT0 := hT
  obtain ⟨rv, ⟨_, had, hcp, rfl, hm1, hc1, hp1⟩, hr⟩ := hH
  obtain ⟨_, tad, tcp, rfl, tm1, tc1, tp1⟩ := hT
  obtain ⟨iad, icp, rfl, hm2, hc2, hp2⟩ := ho.shape
  have hlenI : (natsI order).length = order.length := by simp [natsI]
  simp only [hlenI] at hm2 hp2
  have hnt' : (nt : Int) ≤ 1000 := by omega
  have hnh' : (nh : Int) ≤ 1000 := by omega
  refine ct_intro Try.func90 rfl rfl rfl rfl fun Φ => ?_
  refine en_seq <| en_region <| en_det (opT_assign rfl) rfl <| en_det (opT_assign rfl) rfl <| en_nil <| en_then <| en_seq <| en_region <| en_det (opT_move rfl) rfl <| en_det (opT_nilCheck_p rfl) rfl <| en_det (opT_fieldAddr rfl) rfl <| en_det (opT_fieldAddr rfl) rfl <| ?_
  first | refine en_det (opT_desk0 rfl) rfl ?_ | refine en_det (opT_desk1 rfl) rfl ?_ | refine en_det (opT_desk3 rfl) rfl ?_ | refine en_det (opT_load_h rfl (by assumption)) rfl ?_ | refine en_det (opT_load_own rfl rfl) rfl ?_
  refine en_det (opT_len rfl) rfl <| ?_
  refine en_op (opT_make (T := 23) (e := 31) (sz := 5) (by_ := 40) (z0 := .int .i64 0) (m := (nt : Int)) rfl (by decide) rfl (by omega) (by omega) (by omega)) rfl fun _ _ _ _ ⟨bl, e1, e2, e3⟩ => ?_
  subst e1 e3; replace e2 := e2.symm; subst e2
  rw [zero_rows, Int.toNat_natCast]
  refine en_det (opT_assign rfl) rfl <| en_nil <| en_then <| en_seq <| en_region <| en_det (opT_move rfl) rfl <| en_det (opT_move rfl) rfl <| en_det (opT_nilCheck_p rfl) rfl <| en_det (opT_fieldAddr rfl) rfl <| en_det (opT_fieldAddr rfl) rfl <| ?_
  first | refine en_det (opT_desk0 rfl) rfl ?_ | refine en_det (opT_desk1 rfl) rfl ?_ | refine en_det (opT_desk3 rfl) rfl ?_ | refine en_det (opT_load_h rfl (by assumption)) rfl ?_ | refine en_det (opT_load_own rfl rfl) rfl ?_
  refine en_det (opT_copy (cap' := 0) rfl rfl hT0 (by rw [rows_length, rows_length]) (one_ints _ _ _) hn0) rfl <| en_nil <| en_then <| en_seq <| en_region <| en_det (opT_move rfl) rfl <| en_det (opT_nilCheck_p rfl) rfl <| en_det (opT_fieldAddr rfl) rfl <| en_det (opT_fieldAddr rfl) rfl <| ?_
  first | refine en_det (opT_desk0 rfl) rfl ?_ | refine en_det (opT_desk1 rfl) rfl ?_ | refine en_det (opT_desk3 rfl) rfl ?_ | refine en_det (opT_load_h rfl (by assumption)) rfl ?_ | refine en_det (opT_load_own rfl rfl) rfl ?_
  refine en_det (opT_len rfl) rfl <| ?_
  refine en_op (opT_make (T := 23) (e := 31) (sz := 5) (by_ := 40) (z0 := .int .i64 0) (m := (nh : Int)) rfl (by decide) rfl (by omega) (by omega) (by omega)) rfl fun _ _ _ _ ⟨bh, e1, e2, e3⟩ => ?_
  subst e1 e3; replace e2 := e2.symm; subst e2
  rw [zero_rows, Int.toNat_natCast]
  refine en_det (opT_assign rfl) rfl <| en_nil <| en_then <| en_seq <| en_seq <| en_region <| en_det (opT_move rfl) rfl <| en_det (opT_len rfl) rfl <| en_det (opT_move rfl) rfl <| en_nil <| en_then <| en_block <| ?_
  refine en_loop (fun t : Nat => t ≤ nt ∧ RInv nt nh (t * order.length) (ruleN H T order t).1 (ruleN H T order t).2) (fun t : Nat => [(0, .pointer (some ⟨d, 0, none⟩)), (1, .slice iad order.length icp), (6, .slice (some ⟨bl, 0, none⟩) nt nt), (7, .slice (some ⟨bh, 0, none⟩) nh nh), (36, .int .i64 nt), (37, .int .i64 t)]) (fun _ => h) (fun t => [box bh 31 (rows nh 5 (icell (ruleN H T order t).2)), box bl 31 (rows nt 5 (icell (ruleN H T order t).1)), Desk d (.slice tad nt tcp) (.slice had nh hcp) wv H]) (fun t => nt - t) 0 ⟨by omega, ⟨fun i m hi hm => hTb i m hi hm, fun i m _ _ => by simp [ruleN]⟩⟩ ⟨rfl, by rw [← hlenI]; rfl, rfl, rfl, rfl, rfl, trivial⟩ (.refl _) (tkAll _) fun t ⟨ht, hinv⟩ => ?_
  refine en_seq <| en_region <| ?_
  first | refine en_det (opT_lss_t rfl rfl (by omega)) rfl ?_ | refine en_det (opT_lss_f rfl rfl (by omega)) rfl ?_ | refine en_det (opT_lss rfl rfl) rfl ?_
  refine en_nil <| en_then <| en_seq <| ?_
  refine en_if rfl (fun hlt1 => ?_) (fun hlt1 => ?_)
  · skip
    have htn : t < nt := by omega
    have hsucc := ruleN_succ H T order t
    unfold trayT at hsucc
    generalize ruleN H T order t = S0 at hinv hsucc ⊢
    refine en_skip <| en_then <| en_seq <| en_block <| en_seq <| en_region <| en_det (opT_move rfl) rfl <| en_det (opT_assign rfl) rfl <| en_nil <| en_then <| en_seq <| en_region <| en_det (opT_move rfl) rfl <| en_det (opT_len rfl) rfl <| en_det (opT_move rfl) rfl <| en_nil <| en_then <| en_block <| ?_
    refine en_loop (fun i : Nat => i ≤ order.length ∧ RInv nt nh (t * order.length + i) ((order.take i).foldl (handT H t) S0).1 ((order.take i).foldl (handT H t) S0).2) (fun i : Nat => [(0, .pointer (some ⟨d, 0, none⟩)), (1, .slice iad order.length icp), (6, .slice (some ⟨bl, 0, none⟩) nt nt), (7, .slice (some ⟨bh, 0, none⟩) nh nh), (36, .int .i64 nt), (37, .int .i64 t), (8, .int .i64 t), (40, .slice iad order.length icp), (41, .int .i64 order.length), (42, .int .i64 i)]) (fun _ => h) (fun i => [box bh 31 (rows nh 5 (icell ((order.take i).foldl (handT H t) S0).2)), box bl 31 (rows nt 5 (icell ((order.take i).foldl (handT H t) S0).1)), Desk d (.slice tad nt tcp) (.slice had nh hcp) wv H]) (fun i => order.length - i) 0 ⟨by omega, hinv⟩ ⟨rfl, rfl, rfl, rfl, rfl, rfl, rfl, rfl, rfl, rfl, trivial⟩ (.refl _) (tkAll _) fun i ⟨hi, hinv2⟩ => ?_
    refine en_seq <| en_region <| ?_
    first | refine en_det (opT_lss_t rfl rfl (by omega)) rfl ?_ | refine en_det (opT_lss_f rfl rfl (by omega)) rfl ?_ | refine en_det (opT_lss rfl rfl) rfl ?_
    refine en_nil <| en_then <| en_seq <| ?_
    refine en_if rfl (fun hlt2 => ?_) (fun hlt2 => ?_)
    · skip
      have hil : i < order.length := by omega
      have hhn : order[i] < nh := hlt _ (List.getElem_mem hil)
      obtain ⟨hb, hoff, rfl, hcells⟩ := hp1 (by omega)
      obtain ⟨ib, ioff, rfl, hints⟩ := hp2 (by omega)
      have hgi := hints i hil
      have e1 : (natsI order)[i]'(by rw [hlenI]; exact hil) = ((order[i] : Nat) : Int) := by simp [natsI]
      rw [e1] at hgi
      have hnext : (order.take (i + 1)).foldl (handT H t) S0 = handT H t ((order.take i).foldl (handT H t) S0) order[i] := by
        rw [List.take_succ_eq_append_getElem hil, List.foldl_append]; rfl
      generalize order[i] = hd at hhn hgi hnext
      generalize (order.take i).foldl (handT H t) S0 = S1 at hinv2 hnext ⊢
      obtain ⟨l1, p1⟩ := S1
      simp only at hinv2
      have hfb := forceD_bound (ok hd hhn) t
      have hst := MInv.start (h := hd) hinv2 hfb hhn
      have hmi := fun k hk => hst.steps (takes := (H hd).takes) htn hhn k hk
      have hinv3 := hinv2.hand (ok hd hhn) htn hhn
      have cF := force_ct h d (.slice tad nt tcp) _ wv H nh hd t hH0 hhn h5 (ok hd hhn) (by omega)
      refine en_skip <| en_then <| en_seq <| en_block <| en_seq <| en_region <| ?_
      first | refine en_det (opT_idx1 rfl rfl (by omega) (by omega)) rfl ?_ | refine en_det (opT_idx (ks := 0) rfl rfl (by omega) (by omega)) rfl ?_
      first | refine en_det (opT_desk0 rfl) rfl ?_ | refine en_det (opT_desk1 rfl) rfl ?_ | refine en_det (opT_desk3 rfl) rfl ?_ | refine en_det (opT_load_h rfl (by assumption)) rfl ?_ | refine en_det (opT_load_own rfl rfl) rfl ?_
      refine en_det (opT_assign rfl) rfl <| en_nil <| en_then <| en_scope <| en_seq <| en_region <| en_det (opT_move rfl) rfl <| en_det (opT_move rfl) rfl <| en_det (opT_move rfl) rfl <| en_calld (cF) rfl rfl rfl rfl <| en_det (opT_assign rfl) rfl <| en_nil <| en_then <| en_seq <| en_label <| en_then <| en_seq <| en_region <| en_det (opT_move rfl) rfl <| en_nil <| en_then <| en_block <| ?_
      generalize hS : stepsM (H hd).takes hd t ⟨forceD (H hd) t, l1, p1⟩ = ST at hmi
      have hst0 : ST 0 = ⟨forceD (H hd) t, l1, p1⟩ := by rw [← hS]; rfl
      have hstep : ∀ k, ST (k + 1) = stepM (H hd).takes hd t (ST k) k := fun k => by rw [← hS]; exact stepsM_succ _ _ _ _ _
      have hspent : ∀ k j, (ST k).f = 0 → (∀ m, m < 5 → 0 ≤ (ST k).left t m) → k + j ≤ 5 → ST (k + j) = ST k := fun k j a b c => by rw [← hS] at a b ⊢; exact stepsM_spent a b j c
      have hnx : handT H t (l1, p1) hd = ((ST 5).left, (ST 5).heaps) := by rw [← hS]; rfl
      rw [hnx] at hnext hinv3
      refine en_loop (fun k => k ≤ 5) (fun k : Nat => [(0, .pointer (some ⟨d, 0, none⟩)), (1, .slice (some ⟨ib, ioff, none⟩) order.length icp), (6, .slice (some ⟨bl, 0, none⟩) nt nt), (7, .slice (some ⟨bh, 0, none⟩) nh nh), (36, .int .i64 nt), (37, .int .i64 t), (8, .int .i64 t), (40, .slice (some ⟨ib, ioff, none⟩) order.length icp), (41, .int .i64 order.length), (42, .int .i64 i), (10, .int .i64 hd), (11, .int .i64 (ST k).f), (50, .int .i64 k)]) (fun _ => h) (fun k => [box bh 31 (rows nh 5 (icell (ST k).heaps)), box bl 31 (rows nt 5 (icell (ST k).left)), Desk d (.slice tad nt tcp) (.slice (some ⟨hb, hoff, none⟩) nh hcp) wv H]) (fun k => 5 - k) 0 (by omega) ⟨rfl, rfl, rfl, rfl, rfl, rfl, rfl, rfl, rfl, rfl, rfl, gi rfl (by rw [hst0]), rfl, trivial⟩ (.refl _) (by rw [hst0]; exact tkAll _) fun k hk => ?_
      have hmk := hmi k hk
      have hz := hspent k (5 - k)
      have hst1 := hstep k
      refine en_seq <| en_region <| ?_
      first | refine en_det (opT_lss_t rfl rfl (by omega)) rfl ?_ | refine en_det (opT_lss_f rfl rfl (by omega)) rfl ?_ | refine en_det (opT_lss rfl rfl) rfl ?_
      refine en_nil <| en_then <| en_seq <| ?_
      refine en_if rfl (fun hlt3 => ?_) (fun hlt3 => ?_)
      · skip
        have hk5 : k < 5 := by omega
        have hce := hcells.cell hhn (by omega : k < 9)
        have hcv : hcell (H hd) (rv hd) k = .bool ((H hd).takes k) := by simp [hcell, hk5]
        rw [hcv] at hce
        have hl0 := hmk.l0 t k htn hk5
        have hh0 := hmk.h0 hd k hhn hk5
        have hf0 := hmk.f0
        have hc0 : 60 * ((t * order.length + i : Nat) + 1 : Int) ≤ 100000000 := by
          have : t * order.length ≤ 1000 * 1000 := Nat.mul_le_mul (by omega) hlen
          omega
        have hlz := fun m hm => (hmk.l0 t m htn hm).1
        generalize ST k = s at hmk hst1 hl0 hh0 hf0 hlz hz ⊢
        by_cases hfz : s.f = 0
        · have hz' := hz hfz hlz (by omega)
          rw [show k + (5 - k) = 5 by omega] at hz'
          rw [hz'] at hnext hinv3
          skip
          refine en_skip <| en_then <| en_seq <| en_block <| en_seq <| en_region <| en_det (opT_move rfl) rfl <| en_det (opT_assign rfl) rfl <| en_nil <| en_then <| en_seq <| en_seq <| en_region <| en_det (opT_move rfl) rfl <| en_det (opT_eql_t rfl rfl (by omega)) rfl <| en_nil <| en_then <| en_cond_t rfl <| en_exit <| en_then_exit <| en_blk_miss rfl <| en_then_exit <| en_then_exit <| en_blk_hit <| en_ng_n <| en_blk <| en_then <| en_region <| en_det (opT_add rfl rfl (by constructor <;> omega)) rfl <| en_det (opT_move rfl) rfl <| en_nil <| en_then <| ?_
          have e6 := congrArg Prod.fst hnext
          have e7 := congrArg Prod.snd hnext
          simp only at e6 e7
          rw [← e6, ← e7]
          refine en_again (i + 1) ⟨by omega, ?_⟩ (by omega) ⟨rfl, rfl, rfl, rfl, rfl, rfl, rfl, rfl, rfl, gi rfl (by simp), trivial⟩ (.refl _) (tkAll _)
          rw [hnext]; exact hinv3
        · unfold stepM at hst1
          cases htk : (H hd).takes k with
          | false =>
            rw [htk] at hce hst1
            simp only [Bool.false_eq_true, if_false] at hst1
            rw [← hst1] at hfz ⊢
            refine en_skip <| en_then <| en_seq <| en_block <| en_seq <| en_region <| en_det (opT_move rfl) rfl <| en_det (opT_assign rfl) rfl <| en_nil <| en_then <| en_seq <| en_seq <| en_region <| en_det (opT_move rfl) rfl <| en_det (opT_eql_f rfl rfl (by omega)) rfl <| en_nil <| en_then <| en_cond_f rfl <| en_skip <| en_then <| en_seq <| en_seq <| en_region <| en_det (opT_move rfl) rfl <| en_det (opT_nilCheck_p rfl) rfl <| en_det (opT_fieldAddr rfl) rfl <| en_det (opT_fieldAddr rfl) rfl <| ?_
            first | refine en_det (opT_desk0 rfl) rfl ?_ | refine en_det (opT_desk1 rfl) rfl ?_ | refine en_det (opT_desk3 rfl) rfl ?_ | refine en_det (opT_load_h rfl (by assumption)) rfl ?_ | refine en_det (opT_load_own rfl rfl) rfl ?_
            refine en_det (opT_move rfl) rfl <| en_det (opT_move rfl) rfl <| ?_
            first | refine en_det (opT_idx1 rfl rfl (by omega) (by omega)) rfl ?_ | refine en_det (opT_idx (ks := 0) rfl rfl (by omega) (by omega)) rfl ?_
            refine en_det (opT_fieldAddr rfl) rfl <| en_det (opT_idxArr rfl rfl (by omega) (by omega)) rfl <| ?_
            first | refine en_det (opT_desk0 rfl) rfl ?_ | refine en_det (opT_desk1 rfl) rfl ?_ | refine en_det (opT_desk3 rfl) rfl ?_ | refine en_det (opT_load_h rfl (by assumption)) rfl ?_ | refine en_det (opT_load_own rfl rfl) rfl ?_
            first | refine en_det (opT_not_t rfl) rfl ?_ | refine en_det (opT_not_f rfl) rfl ?_ | refine en_det (opT_not rfl) rfl ?_
            refine en_nil <| en_then <| en_cond_t rfl <| en_exit <| en_then_exit <| en_blk_hit <| en_then <| en_region <| en_det (opT_add rfl rfl (by constructor <;> omega)) rfl <| en_det (opT_move rfl) rfl <| en_nil <| en_then <| ?_
            exact en_again (k + 1) (by omega) (by omega) ⟨rfl, rfl, rfl, rfl, rfl, rfl, rfl, rfl, rfl, rfl, rfl, rfl, gi rfl (by simp), trivial⟩ (.refl _) (tkAll _)
          | true =>
            rw [htk] at hce hst1
            simp only [if_true] at hst1
            have hmin : 0 ≤ min s.f (s.left t k) ∧ min s.f (s.left t k) ≤ s.f ∧ min s.f (s.left t k) ≤ s.left t k := by omega
            have e8 := congrArg RS.f hst1
            have e9 := congrArg RS.left hst1
            have e10 := congrArg RS.heaps hst1
            simp only at e8 e9 e10
            refine en_skip <| en_then <| en_seq <| en_block <| en_seq <| en_region <| en_det (opT_move rfl) rfl <| en_det (opT_assign rfl) rfl <| en_nil <| en_then <| en_seq <| en_seq <| en_region <| en_det (opT_move rfl) rfl <| en_det (opT_eql_f rfl rfl (by omega)) rfl <| en_nil <| en_then <| en_cond_f rfl <| en_skip <| en_then <| en_seq <| en_seq <| en_region <| en_det (opT_move rfl) rfl <| en_det (opT_nilCheck_p rfl) rfl <| en_det (opT_fieldAddr rfl) rfl <| en_det (opT_fieldAddr rfl) rfl <| ?_
            first | refine en_det (opT_desk0 rfl) rfl ?_ | refine en_det (opT_desk1 rfl) rfl ?_ | refine en_det (opT_desk3 rfl) rfl ?_ | refine en_det (opT_load_h rfl (by assumption)) rfl ?_ | refine en_det (opT_load_own rfl rfl) rfl ?_
            refine en_det (opT_move rfl) rfl <| en_det (opT_move rfl) rfl <| ?_
            first | refine en_det (opT_idx1 rfl rfl (by omega) (by omega)) rfl ?_ | refine en_det (opT_idx (ks := 0) rfl rfl (by omega) (by omega)) rfl ?_
            refine en_det (opT_fieldAddr rfl) rfl <| en_det (opT_idxArr rfl rfl (by omega) (by omega)) rfl <| ?_
            first | refine en_det (opT_desk0 rfl) rfl ?_ | refine en_det (opT_desk1 rfl) rfl ?_ | refine en_det (opT_desk3 rfl) rfl ?_ | refine en_det (opT_load_h rfl (by assumption)) rfl ?_ | refine en_det (opT_load_own rfl rfl) rfl ?_
            first | refine en_det (opT_not_t rfl) rfl ?_ | refine en_det (opT_not_f rfl) rfl ?_ | refine en_det (opT_not rfl) rfl ?_
            refine en_nil <| en_then <| en_cond_f rfl <| en_skip <| en_then <| en_seq <| en_region <| en_det (opT_move rfl) rfl <| en_det (opT_move rfl) rfl <| en_det (opT_move rfl) rfl <| en_det (opT_move rfl) rfl <| ?_
            first | refine en_det (opT_idx1 rfl rfl (by omega) (by omega)) rfl ?_ | refine en_det (opT_idx (ks := 0) rfl rfl (by omega) (by omega)) rfl ?_
            refine en_det (opT_idxArr rfl rfl (by omega) (by omega)) rfl <| en_det (opT_load_own rfl (out_get htn hk5)) rfl <| en_det (opT_min2 rfl rfl) rfl <| en_det (opT_assign rfl) rfl <| en_nil <| en_then <| en_seq <| en_region <| en_det (opT_move rfl) rfl <| en_det (opT_move rfl) rfl <| en_det (opT_sub rfl rfl (by constructor <;> omega)) rfl <| en_det (opT_assign rfl) rfl <| en_nil <| en_then <| en_seq <| en_draw0 [0, 1, 2, 3, 4, 5, 6, 7, 8, 9, 10] (by kernel_rfl) (by decide +kernel) (by decide +kernel) (by decide) <| dp_p rfl (fun _ _ => opT_move rfl) rfl rfl rfl <| dp_p rfl (fun _ _ => opT_move rfl) rfl rfl rfl <| dp_p rfl (fun _ _ => opT_move rfl) rfl rfl rfl <| ?_
            first | refine dp_p rfl (fun _ _ => opT_idx1 rfl rfl (by omega) (by omega)) rfl rfl rfl ?_ | refine dp_p rfl (fun _ _ => opT_idx (ks := 0) rfl rfl (by omega) (by omega)) rfl rfl rfl ?_
            refine dp_p rfl (fun _ _ => opT_idxArr rfl rfl (by omega) (by omega)) rfl rfl rfl <| dp_q rfl (opT_load_own rfl (out_get htn hk5)) rfl rfl rfl <| dp_p rfl (fun _ _ => opT_move rfl) rfl rfl rfl <| dp_p rfl (fun _ _ => opT_sub rfl rfl (by constructor <;> omega)) rfl rfl rfl <| ?_
            first | refine dp_p rfl (fun _ _ => opT_idx1 rfl rfl (by omega) (by omega)) rfl rfl rfl ?_ | refine dp_p rfl (fun _ _ => opT_idx (ks := 0) rfl rfl (by omega) (by omega)) rfl rfl rfl ?_
            refine dp_p rfl (fun _ _ => opT_idxArr rfl rfl (by omega) (by omega)) rfl rfl rfl <| dp_td0 rfl (opT_store1s rfl rfl rfl (by rw [rows_length]; exact row_lt htn hk5)) rfl rfl rfl rfl rfl <| dp_done0 <| ?_
            rw [out_set hk5, ← e9]
            refine en_then <| en_draw0 [0, 1, 2, 3, 4, 5, 6, 7, 8, 9, 10] (by kernel_rfl) (by decide +kernel) (by decide +kernel) (by decide) <| dp_p rfl (fun _ _ => opT_move rfl) rfl rfl rfl <| dp_p rfl (fun _ _ => opT_move rfl) rfl rfl rfl <| dp_p rfl (fun _ _ => opT_move rfl) rfl rfl rfl <| ?_
            first | refine dp_p rfl (fun _ _ => opT_idx1 rfl rfl (by omega) (by omega)) rfl rfl rfl ?_ | refine dp_p rfl (fun _ _ => opT_idx (ks := 0) rfl rfl (by omega) (by omega)) rfl rfl rfl ?_
            refine dp_p rfl (fun _ _ => opT_idxArr rfl rfl (by omega) (by omega)) rfl rfl rfl <| dp_q rfl (opT_load_own rfl (out_get hhn hk5)) rfl rfl rfl <| dp_p rfl (fun _ _ => opT_move rfl) rfl rfl rfl <| dp_p rfl (fun _ _ => opT_add rfl rfl (by constructor <;> omega)) rfl rfl rfl <| ?_
            first | refine dp_p rfl (fun _ _ => opT_idx1 rfl rfl (by omega) (by omega)) rfl rfl rfl ?_ | refine dp_p rfl (fun _ _ => opT_idx (ks := 0) rfl rfl (by omega) (by omega)) rfl rfl rfl ?_
            refine dp_p rfl (fun _ _ => opT_idxArr rfl rfl (by omega) (by omega)) rfl rfl rfl <| dp_td0 rfl (opT_store1s rfl rfl rfl (by rw [rows_length]; exact row_lt hhn hk5)) rfl rfl rfl rfl rfl <| dp_done0 <| ?_
            rw [out_set hk5, ← e10]
            refine en_blk <| en_then <| en_region <| en_det (opT_add rfl rfl (by constructor <;> omega)) rfl <| en_det (opT_move rfl) rfl <| en_nil <| en_then <| ?_
            exact en_again (k + 1) (by omega) (by omega) ⟨rfl, rfl, rfl, rfl, rfl, rfl, rfl, rfl, rfl, rfl, rfl, gi rfl e8.symm, gi rfl (by simp), trivial⟩ (.refl _) (tkAll _)
      · skip
        obtain rfl : k = 5 := by omega
        refine en_exit <| en_then_exit <| en_then_exit <| en_blk_hit <| en_ng_n <| en_blk <| en_then <| en_region <| en_det (opT_add rfl rfl (by constructor <;> omega)) rfl <| en_det (opT_move rfl) rfl <| en_nil <| en_then <| ?_
        have e6 := congrArg Prod.fst hnext
        have e7 := congrArg Prod.snd hnext
        simp only at e6 e7
        rw [← e6, ← e7]
        refine en_again (i + 1) ⟨by omega, ?_⟩ (by omega) ⟨rfl, rfl, rfl, rfl, rfl, rfl, rfl, rfl, rfl, gi rfl (by simp), trivial⟩ (.refl _) (tkAll _)
        rw [hnext]; exact hinv3
    · skip
      obtain rfl : i = order.length := by omega
      rw [List.take_length] at hinv2 ⊢
      rw [← hsucc] at hinv2 ⊢
      refine en_exit <| en_then_exit <| en_then_exit <| en_blk_hit <| en_blk <| en_then <| en_region <| en_det (opT_add rfl rfl (by constructor <;> omega)) rfl <| en_det (opT_move rfl) rfl <| en_nil <| en_then <| ?_
      have e2 : t * order.length + order.length = (t + 1) * order.length := by rw [Nat.add_mul]; omega
      rw [e2] at hinv2
      exact en_again (t + 1) ⟨by omega, hinv2⟩ (by omega) ⟨rfl, rfl, rfl, rfl, rfl, gi rfl (by simp), trivial⟩ (.refl _) (tkAll _)
  · skip
    obtain rfl : t = nt := by omega
    refine en_exit <| en_then_exit <| en_then_exit <| en_blk_hit <| en_then <| en_seq <| en_region <| en_det (opT_move rfl) rfl <| en_det (opT_move rfl) rfl <| en_det (opT_assign rfl) rfl <| en_det (opT_assign rfl) rfl <| en_nil <| en_then <| en_ret <| ?_
    refine en_return (rs := [.tmp 4, .tmp 5]) rfl (.cons (.tmp rfl) (.cons (.tmp rfl) .nil)) (.refl _) (Γ1 := [box bl 31 (rows t 5 (icell (ruleN H T order t).1)), box bh 31 (rows nh 5 (icell (ruleN H T order t).2)), Desk d (.slice tad t tcp) (.slice had nh hcp) wv H]) ⟨bl, bh, rfl, rfl⟩
end Go.Sx

/- What is left by the rule, what hands have taken; sharings; sets that bound. -/
namespace Go.Sx
open Go.Proofs
set_option maxRecDepth 100000

theorem slH_box {h : Heap} {b : Nat} {T : TypeId} {cs : List Value} {sz m : Nat} (hb : h b = some (.cells cs.toArray T (0, 0))) (hl : cs.length = m * sz) (hm : m ≤ 9223372036854775807) : SlH h sz (.slice (some ⟨b, 0, none⟩) m m) m cs :=
  ⟨hl, _, m, rfl, Nat.le_refl _, hm, fun _ => ⟨b, 0, rfl, cellsH_box hb⟩⟩
structure BOK (b : BeltD) : Prop where
  n1 : 1 ≤ b.nt
  n8 : b.nt ≤ 8
  h5 : b.nh ≤ 5
  tr : ∀ i m, i < b.nt → m < 5 → 0 ≤ b.tray i m ∧ b.tray i m ≤ 60
  ok : ∀ i, i < b.nh → OKH (b.hand i)
  sl : ∀ i, i < b.nh → 0 ≤ (b.hand i).slip ∧ (b.hand i).slip ≤ 100
  re : ∀ i, i < b.nh → ∀ j, j < (b.hand i).rests.length → 0 ≤ (b.hand i).rests.getD j 0 ∧ (b.hand i).rests.getD j 0 < b.nt
  ri : ∀ i, i < b.nh → risesD (b.hand i).rests = true
theorem check_ok {b : BeltD} : checkD b = 0 ↔ BOK b := by
  unfold checkD
  constructor
  · intro hc
    split at hc
    · cases hc
    rename_i h1
    split at hc
    · cases hc
    rename_i h2
    split at hc
    · cases hc
    rename_i h3
    split at hc
    · cases hc
    rename_i h4
    split at hc
    · cases hc
    rename_i h5
    simp only [Bool.not_eq_true', Bool.or_eq_true, decide_eq_true_eq, not_or, Bool.not_eq_false, inD] at h1
    simp only [Bool.not_eq_true', Bool.not_eq_false] at h2 h3 h4 h5
    rw [allI_iff] at h2 h3 h4 h5
    have h3' : ∀ i, i < b.nh → (0 ≤ (b.hand i).str ∧ (b.hand i).str ≤ 40) ∧ (0 ≤ (b.hand i).tire ∧ (b.hand i).tire ≤ 10) ∧ (0 ≤ (b.hand i).slip ∧ (b.hand i).slip ≤ 100) := fun i hi => by
      have := h3 i hi
      simp only [Bool.and_eq_true, inD, decide_eq_true_eq] at this
      exact ⟨this.1.1, this.1.2, this.2⟩
    refine ⟨by omega, by omega, by omega, fun i m hi hm => piecesD_iff.1 (h2 i hi) m hm, fun i hi => ⟨(h3' i hi).1.1, (h3' i hi).1.2, (h3' i hi).2.1.1, (h3' i hi).2.1.2⟩, fun i hi => (h3' i hi).2.2, fun i hi j hj => ?_, h5⟩
    have := allI_iff.1 (h4 i hi) j hj
    simp only [inD, decide_eq_true_eq] at this
    omega
  · rintro ⟨n1, n8, h5, tr, ok, sl, re, ri⟩
    have a1 : ¬ (!(inD b.nt 1 8) || decide (b.nh > 5)) = true := by
      simp only [inD, Bool.or_eq_true, Bool.not_eq_true', decide_eq_false_iff_not, decide_eq_true_eq]; omega
    have a2 : (allI b.nt fun i => piecesD (b.tray i)) = true := allI_iff.2 fun i hi => piecesD_iff.2 fun m hm => tr i m hi hm
    have a3 : (allI b.nh fun i => inD (b.hand i).str 0 40 && inD (b.hand i).tire 0 10 && inD (b.hand i).slip 0 100) = true := allI_iff.2 fun i hi => by
      obtain ⟨s0, s1, t0, t1⟩ := ok i hi
      have := sl i hi
      simp [inD, s0, s1, t0, t1, this]
    have a4 : (allI b.nh fun i => allI (b.hand i).rests.length fun j => inD ((b.hand i).rests.getD j 0) 0 (b.nt - 1)) = true := allI_iff.2 fun i hi => allI_iff.2 fun j hj => by
      have := re i hi j hj
      simp only [inD, decide_eq_true_eq]; omega
    have a5 : (allI b.nh fun i => risesD (b.hand i).rests) = true := allI_iff.2 ri
    rw [if_neg a1, a2, a3, a4, a5]
    rfl
theorem upto_nats (n : Nat) : upto n = natsI (List.range n) := rfl
attribute [local irreducible] Code.wpIn wpListIn Exit.then Exit.inBlock BQ Again Hd St En OpT box blk RQ BQ0 fmap own Desk

def nilS : Value := .slice none 0 0
def allH (b : BeltD) : List Nat := List.range b.nh
def RunR (b : BeltD) (n : Nat) (T : Nat → Nat → Int) (v : Value) (h' : Heap) (Γ' : List HP) : Prop :=
  Γ' = [] ∧ ((checkD b = 0 ∧ ∃ lv, v = .tuple #[lv, .int .i64 0] ∧ IsTrays h' lv n T) ∨ (checkD b ≠ 0 ∧ v = .tuple #[nilS, .int .i64 (checkD b)]))
theorem run28_ct (h : Heap) (tv hv : Value) (b : BeltD) (hb : IsBelt h (.agg #[tv, hv]) b) : CT Try.prog 28 [.agg #[tv, hv]] h [] (RunR b b.nt (ruleN b.hand b.tray (allH b) b.nt).1) := by
  have cA := opened_ct h tv hv b hb
  have ⟨hT, hH⟩ : IsTrays h tv b.nt b.tray ∧ IsHands h hv b.nh b.hand := by
    obtain ⟨tv', hv', e, ht, hh⟩ := hb
    simp only [Value.agg.injEq, Array.mk.injEq, List.cons.injEq, and_true] at e
    obtain ⟨rfl, rfl⟩ := e
    exact ⟨ht, hh⟩
  refine ct_intro Try.func28 rfl rfl rfl rfl fun Φ => ?_
  refine en_seq <| en_region <| en_box rfl rfl rfl fun b1 => en_det (opT_assign rfl) rfl <| en_det (opT_assign rfl) rfl <| en_nil <| en_then <| en_seq <| en_region <| ?_
  first | refine en_det (opT_loadW_own rfl rfl) rfl ?_ | refine en_det (opT_loadA_own rfl) rfl ?_
  refine en_call cA rfl rfl rfl rfl fun v h1 Γ' hs1 hv => ?_
  skip
  rcases hv with ⟨hz, d, rfl, rfl⟩ | ⟨hz, rfl, rfl⟩
  · refine en_norm ?_
    have hk := check_ok.1 hz
    refine en_det (opT_move rfl) rfl <| en_det (opT_extract rfl rfl) rfl <| en_det (opT_extract rfl rfl) rfl <| en_det (opT_assign rfl) rfl <| en_det (opT_assign rfl) rfl <| en_nil <| en_then <| en_seq <| en_seq <| en_region <| en_det (opT_move rfl) rfl <| en_det (opT_neq_f rfl rfl (by omega)) rfl <| en_nil <| en_then <| en_cond_f rfl <| en_skip <| en_then <| en_seq <| en_region <| en_det (opT_move rfl) rfl <| en_det (opT_move rfl) rfl <| ?_
    refine en_call (hands_ct h1 d tv hv wholeV b.hand b.nh (hH.mono hs1) (by have := hk.h5; omega)) rfl rfl rfl rfl fun v h2 Γ' hs2 hv => ?_
    obtain ⟨ho, rfl⟩ := hv
    rw [upto_nats] at ho
    refine en_norm ?_
    refine en_call (rule_ct h2 d b.nh b.nt tv hv wholeV v b.tray b.hand (allH b) (by have := hk.h5; omega) (fun x hx => by simpa [allH] using hx) (by simp [allH]; have := hk.h5; omega) hk.ok (by have := hk.n1; omega) (by have := hk.n8; omega) (hT.mono (hs1.trans hs2)) (hH.mono (hs1.trans hs2)) ho hk.tr) rfl rfl rfl rfl fun v h3 Γ' hs3 hv => ?_
    obtain ⟨bl, bh, rfl, rfl⟩ := hv
    refine en_norm ?_
    refine en_pick (box bl 31 (rows b.nt 5 (icell (ruleN b.hand b.tray (allH b) b.nt).1))) ?_
    refine en_fzb fun h4 hs4 hb4 => ?_
    refine en_det (opT_move rfl) rfl <| en_det (opT_extract rfl rfl) rfl <| en_det (opT_extract rfl rfl) rfl <| en_det (opT_assign rfl) rfl <| en_det (opT_assign rfl) rfl <| en_nil <| en_then <| en_seq <| en_region <| en_det (opT_move rfl) rfl <| en_det (opT_assign rfl) rfl <| en_det (opT_assign rfl) rfl <| en_nil <| en_then <| en_ret <| ?_
    refine en_return (rs := [.tmp 2, .tmp 3]) rfl (.cons (.tmp rfl) (.cons (.tmp rfl) .nil)) (hs1.trans (hs2.trans (hs3.trans hs4))) (Γ1 := []) ⟨rfl, .inl ⟨hz, _, rfl, slH_box hb4 (rows_length _ _ _) (by have := hk.n8; have := hk.h5; omega)⟩⟩
  · refine en_norm ?_
    refine en_det (opT_move rfl) rfl <| en_det (opT_extract rfl rfl) rfl <| en_det (opT_extract rfl rfl) rfl <| en_det (opT_assign rfl) rfl <| en_det (opT_assign rfl) rfl <| en_nil <| en_then <| en_seq <| en_seq <| en_region <| en_det (opT_move rfl) rfl <| en_det (opT_neq_t rfl rfl (by omega)) rfl <| en_nil <| en_then <| en_cond_t rfl <| en_seq <| en_region <| en_det (opT_move rfl) rfl <| en_det (opT_assign rfl) rfl <| en_det (opT_assign rfl) rfl <| en_nil <| en_then <| en_ret <| en_then_ret <| ?_
    refine en_return (rs := [.tmp 2, .tmp 3]) rfl (.cons (.tmp rfl) (.cons (.tmp rfl) .nil)) hs1 (Γ1 := []) ⟨rfl, .inr ⟨hz, rfl⟩⟩
theorem run29_ct (h : Heap) (tv hv : Value) (b : BeltD) (hb : IsBelt h (.agg #[tv, hv]) b) : CT Try.prog 29 [.agg #[tv, hv]] h [] (RunR b b.nh (ruleN b.hand b.tray (allH b) b.nt).2) := by
  have cA := opened_ct h tv hv b hb
  have ⟨hT, hH⟩ : IsTrays h tv b.nt b.tray ∧ IsHands h hv b.nh b.hand := by
    obtain ⟨tv', hv', e, ht, hh⟩ := hb
    simp only [Value.agg.injEq, Array.mk.injEq, List.cons.injEq, and_true] at e
    obtain ⟨rfl, rfl⟩ := e
    exact ⟨ht, hh⟩
  refine ct_intro Try.func29 rfl rfl rfl rfl fun Φ => ?_
  refine en_seq <| en_region <| en_box rfl rfl rfl fun b1 => en_det (opT_assign rfl) rfl <| en_det (opT_assign rfl) rfl <| en_nil <| en_then <| en_seq <| en_region <| ?_
  first | refine en_det (opT_loadW_own rfl rfl) rfl ?_ | refine en_det (opT_loadA_own rfl) rfl ?_
  refine en_call cA rfl rfl rfl rfl fun v h1 Γ' hs1 hv => ?_
  skip
  rcases hv with ⟨hz, d, rfl, rfl⟩ | ⟨hz, rfl, rfl⟩
  · refine en_norm ?_
    have hk := check_ok.1 hz
    refine en_det (opT_move rfl) rfl <| en_det (opT_extract rfl rfl) rfl <| en_det (opT_extract rfl rfl) rfl <| en_det (opT_assign rfl) rfl <| en_det (opT_assign rfl) rfl <| en_nil <| en_then <| en_seq <| en_seq <| en_region <| en_det (opT_move rfl) rfl <| en_det (opT_neq_f rfl rfl (by omega)) rfl <| en_nil <| en_then <| en_cond_f rfl <| en_skip <| en_then <| en_seq <| en_region <| en_det (opT_move rfl) rfl <| en_det (opT_move rfl) rfl <| ?_
    refine en_call (hands_ct h1 d tv hv wholeV b.hand b.nh (hH.mono hs1) (by have := hk.h5; omega)) rfl rfl rfl rfl fun v h2 Γ' hs2 hv => ?_
    obtain ⟨ho, rfl⟩ := hv
    rw [upto_nats] at ho
    refine en_norm ?_
    refine en_call (rule_ct h2 d b.nh b.nt tv hv wholeV v b.tray b.hand (allH b) (by have := hk.h5; omega) (fun x hx => by simpa [allH] using hx) (by simp [allH]; have := hk.h5; omega) hk.ok (by have := hk.n1; omega) (by have := hk.n8; omega) (hT.mono (hs1.trans hs2)) (hH.mono (hs1.trans hs2)) ho hk.tr) rfl rfl rfl rfl fun v h3 Γ' hs3 hv => ?_
    obtain ⟨bl, bh, rfl, rfl⟩ := hv
    refine en_norm ?_
    refine en_pick (box bh 31 (rows b.nh 5 (icell (ruleN b.hand b.tray (allH b) b.nt).2))) ?_
    refine en_fzb fun h4 hs4 hb4 => ?_
    refine en_det (opT_move rfl) rfl <| en_det (opT_extract rfl rfl) rfl <| en_det (opT_extract rfl rfl) rfl <| en_det (opT_assign rfl) rfl <| en_det (opT_assign rfl) rfl <| en_nil <| en_then <| en_seq <| en_region <| en_det (opT_move rfl) rfl <| en_det (opT_assign rfl) rfl <| en_det (opT_assign rfl) rfl <| en_nil <| en_then <| en_ret <| ?_
    refine en_return (rs := [.tmp 2, .tmp 3]) rfl (.cons (.tmp rfl) (.cons (.tmp rfl) .nil)) (hs1.trans (hs2.trans (hs3.trans hs4))) (Γ1 := []) ⟨rfl, .inl ⟨hz, _, rfl, slH_box hb4 (rows_length _ _ _) (by have := hk.n8; have := hk.h5; omega)⟩⟩
  · refine en_norm ?_
    refine en_det (opT_move rfl) rfl <| en_det (opT_extract rfl rfl) rfl <| en_det (opT_extract rfl rfl) rfl <| en_det (opT_assign rfl) rfl <| en_det (opT_assign rfl) rfl <| en_nil <| en_then <| en_seq <| en_seq <| en_region <| en_det (opT_move rfl) rfl <| en_det (opT_neq_t rfl rfl (by omega)) rfl <| en_nil <| en_then <| en_cond_t rfl <| en_seq <| en_region <| en_det (opT_move rfl) rfl <| en_det (opT_assign rfl) rfl <| en_det (opT_assign rfl) rfl <| en_nil <| en_then <| en_ret <| en_then_ret <| ?_
    refine en_return (rs := [.tmp 2, .tmp 3]) rfl (.cons (.tmp rfl) (.cons (.tmp rfl) .nil)) hs1 (Γ1 := []) ⟨rfl, .inr ⟨hz, rfl⟩⟩
end Go.Sx

/- The most of each tray. -/
namespace Go.Sx
open Go.Proofs
set_option maxRecDepth 100000

def takesB (b : BeltD) : Nat → Nat → Bool := fun i m => (b.hand i).takes m
def forceB (b : BeltD) (t : Nat) : Nat → Int := fun i => forceD (b.hand i) t
def shB (b : BeltD) (want : (Nat → Int) → Nat → Int) (t : Nat) (hands : List Nat) : (Nat → Nat → Int) × (Nat → Nat) := shareS (takesB b) (forceB b t) hands (fun m => (want (b.tray t) m).toNat) 5
def heldB (b : BeltD) (want : (Nat → Int) → Nat → Int) (t : Nat) (hands : List Nat) : Nat := heldD (takesB b) (shB b want t hands).1 hands (shB b want t hands).2
def mostT (b : BeltD) (t : Nat) : Int := sumN b.nh fun i => sum5 ((shB b wholeD t (allH b)).1 i)
def mostL (b : BeltD) : List Int := (List.range b.nt).map fun t => mostT b t
theorem belt_parts {h : Heap} {tv hv : Value} {b : BeltD} (hb : IsBelt h (.agg #[tv, hv]) b) : IsTrays h tv b.nt b.tray ∧ IsHands h hv b.nh b.hand := by
  obtain ⟨tv', hv', e, ht, hh⟩ := hb
  simp only [Value.agg.injEq, Array.mk.injEq, List.cons.injEq, and_true] at e
  obtain ⟨rfl, rfl⟩ := e
  exact ⟨ht, hh⟩
theorem out_ok (b : BeltD) (hk : BOK b) (want : (Nat → Int) → Nat → Int) (t : Nat) (hands : List Nat) (hlt : ∀ x ∈ hands, x < b.nh) : OutOK b.nh (takesB b) (forceB b t) (shB b want t hands).1 :=
  (shareS_ok hk.h5 hlt (fun i hi => (forceD_bound (hk.ok i hi) t).1) _ 5 (Nat.le_refl _)).1
theorem row_bound {b : BeltD} (hk : BOK b) {t : Nat} {out : Nat → Nat → Int} (ok : OutOK b.nh (takesB b) (forceB b t) out) {i : Nat} (hi : i < b.nh) : 0 ≤ sum5 (out i) ∧ sum5 (out i) ≤ 40 := by
  have h1 := ok.le i hi
  have h2 := (forceD_bound (hk.ok i hi) t).2
  have h3 : 0 ≤ sum5 (out i) := by
    rw [sum5_eq]
    have := ok.pos i 0 hi (by omega)
    have := ok.pos i 1 hi (by omega)
    have := ok.pos i 2 hi (by omega)
    have := ok.pos i 3 hi (by omega)
    have := ok.pos i 4 hi (by omega)
    omega
  exact ⟨h3, by unfold forceB at h1; omega⟩
attribute [local irreducible] Code.wpIn wpListIn Exit.then Exit.inBlock BQ Again Hd St En OpT box blk RQ BQ0 fmap own Desk

theorem shareB_ct (h : Heap) (d tray : Nat) (tv hv wv hdv : Value) (b : BeltD) (hands : List Nat) (want : (Nat → Int) → Nat → Int) (hb : IsBelt h (.agg #[tv, hv]) b) (hk : BOK b) (ht : tray < b.nt) (hlt : ∀ x ∈ hands, x < b.nh) (hlen : hands.length ≤ 1000) (hhd : IsInts h hdv (natsI hands)) (hW : Want h wv want)
    (hw : ∀ m, m < 5 → 0 ≤ want (b.tray tray) m ∧ want (b.tray tray) m ≤ 60) :
    CT Try.prog 101 [.pointer (some ⟨d, 0, none⟩), .int .i64 tray, hdv] h [Desk d tv hv wv b.hand] (fun v _ Γ' => ShareR b.nh d tv hv wv b.hand (shB b want tray hands).1 (shB b want tray hands).2 (heldB b want tray hands) v Γ') :=
  share_ct h d b.nh b.nt tray tv hv wv hdv b.tray b.hand hands want (fun m => (want (b.tray tray) m).toNat) hk.h5 hlt hlen hk.ok ht (by have := hk.n8; omega) (belt_parts hb).1 (belt_parts hb).2 hhd hW (fun j hj => hk.tr tray j ht hj) (fun m hm => by have := hw m hm; omega)
theorem whole_w {b : BeltD} (hk : BOK b) {t : Nat} (ht : t < b.nt) : ∀ m, m < 5 → 0 ≤ wholeD (b.tray t) m ∧ wholeD (b.tray t) m ≤ 60 := fun m hm => hk.tr t m ht hm
theorem allH_lt (b : BeltD) : ∀ x ∈ allH b, x < b.nh := fun x hx => by simpa [allH] using hx
theorem allH_len (b : BeltD) : (allH b).length = b.nh := by simp [allH]

theorem most_ct (h : Heap) (d : Nat) (tv hv : Value) (b : BeltD) (hb : IsBelt h (.agg #[tv, hv]) b) (hk : BOK b) :
    CT Try.prog 75 [.pointer (some ⟨d, 0, none⟩)] h [Desk d tv hv wholeV b.hand] (fun v h' Γ' => IsInts h' v (mostL b) ∧ Γ' = [Desk d tv hv wholeV b.hand]) := by
  obtain ⟨hT, hH⟩ := belt_parts hb
  obtain ⟨_, tad, tcp, rfl, tm1, tc1, tp1⟩ := hT
  have hn8 := hk.n8
  have hh5 := hk.h5
  refine ct_intro Try.func75 rfl rfl rfl rfl fun Φ => ?_
  refine en_seq <| en_region <| en_det (opT_assign rfl) rfl <| en_nil <| en_then <| en_seq <| en_region <| en_det (opT_assign rfl) rfl <| en_nil <| en_then <| en_seq <| en_seq <| en_region <| en_det (opT_move rfl) rfl <| en_det (opT_nilCheck_p rfl) rfl <| en_det (opT_fieldAddr rfl) rfl <| en_det (opT_fieldAddr rfl) rfl <| ?_
  first | refine en_det (opT_desk0 rfl) rfl ?_ | refine en_det (opT_desk1 rfl) rfl ?_ | refine en_det (opT_desk3 rfl) rfl ?_ | refine en_det (opT_load_h rfl (by assumption)) rfl ?_ | refine en_det (opT_load_own rfl rfl) rfl ?_
  refine en_det (opT_len rfl) rfl <| en_det (opT_move rfl) rfl <| en_nil <| en_then <| en_block <| ?_
  refine en_own_nil 3 1 ?_
  refine en_loop (fun x : Nat × Value × Heap => x.1 ≤ b.nt ∧ h.sub x.2.2) (fun x => [(0, .pointer (some ⟨d, 0, none⟩)), (3, x.2.1), (16, .int .i64 b.nt), (17, .int .i64 x.1)]) (fun x => x.2.2) (fun x => [own 3 1 x.2.1 x.1 (((List.range x.1).map fun t => mostT b t).map (Value.int .i64)), Desk d (.slice tad b.nt tcp) hv wholeV b.hand]) (fun x => b.nt - x.1) (0, .slice none 0 0, h) ⟨by simp, .refl _⟩ ⟨rfl, rfl, rfl, rfl, trivial⟩ (.refl _) (tkAll _) fun x hx => ?_
  obtain ⟨t, ov, h1⟩ := x
  obtain ⟨ht, hs1⟩ := hx
  simp only at ht hs1
  change En _ _ _ [(0, .pointer (some ⟨d, 0, none⟩)), (3, ov), (16, .int .i64 b.nt), (17, .int .i64 t)] h1 [own 3 1 ov t (((List.range t).map fun t => mostT b t).map (Value.int .i64)), Desk d (.slice tad b.nt tcp) hv wholeV b.hand]
  refine en_seq <| en_region <| ?_
  first | refine en_det (opT_lss_t rfl rfl (by omega)) rfl ?_ | refine en_det (opT_lss_f rfl rfl (by omega)) rfl ?_ | refine en_det (opT_lss rfl rfl) rfl ?_
  refine en_nil <| en_then <| en_seq <| ?_
  refine en_if rfl (fun hlt1 => ?_) (fun hlt1 => ?_)
  · skip
    have htn : t < b.nt := by omega
    refine en_skip <| en_then <| en_seq <| en_block <| en_seq <| en_region <| en_det (opT_move rfl) rfl <| en_det (opT_assign rfl) rfl <| en_nil <| en_then <| en_seq <| en_region <| en_det (opT_assign rfl) rfl <| en_nil <| en_then <| en_seq <| en_region <| en_det (opT_move rfl) rfl <| en_det (opT_move rfl) rfl <| en_det (opT_move rfl) rfl <| ?_
    refine en_call (hands_ct h1 d (.slice tad b.nt tcp) hv wholeV b.hand b.nh (hH.mono hs1) (by omega)) rfl rfl rfl rfl fun v h2 Γ' hs2 hv' => ?_
    obtain ⟨ho, rfl⟩ := hv'
    rw [upto_nats] at ho
    refine en_norm ?_
    refine en_call (shareB_ct h2 d t (.slice tad b.nt tcp) hv wholeV v b (allH b) wholeD (hb.mono (hs1.trans hs2)) hk htn (allH_lt b) (by rw [allH_len]; omega) ho (whole_want h2) (whole_w hk htn)) rfl rfl rfl rfl fun v3 h3 Γ' hs3 hv' => ?_
    obtain ⟨bo, rfl, rfl⟩ := hv'
    refine en_norm ?_
    have okO := out_ok b hk wholeD t (allH b) (allH_lt b)
    have hmt : mostT b t = sumN b.nh fun i => sum5 ((shB b wholeD t (allH b)).1 i) := rfl
    generalize (shB b wholeD t (allH b)).1 = O at okO hmt ⊢
    refine en_det (opT_move rfl) rfl <| en_det (opT_extract rfl rfl) rfl <| en_det (opT_extract rfl rfl) rfl <| en_det (opT_extract rfl rfl) rfl <| en_alloc rfl fun b7 => ?_
    refine en_det (opT_assign rfl) rfl <| en_det0 (opT_storeW rfl rfl rfl rfl (one_trayL _)) <| en_det (opT_assign rfl) rfl <| en_nil <| en_then <| en_seq <| en_seq <| en_region <| en_det (opT_move rfl) rfl <| en_det (opT_len rfl) rfl <| en_det (opT_move rfl) rfl <| en_nil <| en_then <| en_block <| ?_
    refine en_loop (fun k : Nat => k ≤ b.nh) (fun k : Nat => [(0, .pointer (some ⟨d, 0, none⟩)), (3, ov), (16, .int .i64 b.nt), (17, .int .i64 t), (5, .int .i64 (sumN k fun i => sum5 (O i))), (29, .slice (some ⟨bo, 0, none⟩) b.nh b.nh), (30, .int .i64 b.nh), (31, .int .i64 k)]) (fun _ => h3) (fun _ => [box bo 31 (rows b.nh 5 (icell O)), own 3 1 ov t (((List.range t).map fun t => mostT b t).map (Value.int .i64)), Desk d (.slice tad b.nt tcp) hv wholeV b.hand]) (fun k => b.nh - k) 0 (by omega) ⟨rfl, rfl, rfl, rfl, rfl, rfl, rfl, rfl, trivial⟩ (.refl _) inferInstance fun k hk' => ?_
    refine en_seq <| en_region <| ?_
    first | refine en_det (opT_lss_t rfl rfl (by omega)) rfl ?_ | refine en_det (opT_lss_f rfl rfl (by omega)) rfl ?_ | refine en_det (opT_lss rfl rfl) rfl ?_
    refine en_nil <| en_then <| en_seq <| ?_
    refine en_if rfl (fun hlt2 => ?_) (fun hlt2 => ?_)
    · skip
      have hkn : k < b.nh := by omega
      have hrow := row_bound hk okO hkn
      have hsum := sumN_bound (n := k) (f := fun i => sum5 (O i)) (B := 40) fun i hi => row_bound hk okO (by omega)
      have cS : ∀ bx, CT Try.prog 76 [.slice (some ⟨bx, 0, none⟩) 5 5] h3 [box bx 31 (row 5 (icell O k))] (DetW (.int .i64 (sum5 (O k))) [box bx 31 (row 5 (icell O k))]) := fun bx =>
        add_own_ct h3 bx 0 5 5 31 _ (O k) (by omega) (fun j hj => by have := ent5 okO hkn (by exact (forceD_bound (hk.ok k hkn) t).2) hj; omega) (fun j hj => by rw [Nat.zero_add]; exact row_get hj)
      refine en_skip <| en_then <| en_seq <| en_block <| en_seq <| en_region <| ?_
      first | refine en_det (opT_idx1 rfl rfl (by omega) (by omega)) rfl ?_ | refine en_det (opT_idx (ks := 0) rfl rfl (by omega) (by omega)) rfl ?_
      refine en_det (opT_loadA_own (t := rows_take hkn) rfl) rfl <| en_alloc rfl fun b10 => ?_
      refine en_det0 (opT_storeW rfl rfl rfl rfl (one_trayL (O k))) <| en_nil <| en_then <| en_region <| en_det (opT_move rfl) rfl <| en_det (opT_sliceArr (by omega) rfl) rfl <| en_calld (cS b10) rfl rfl rfl rfl <| en_det (opT_add rfl rfl (by constructor <;> omega)) rfl <| en_det (opT_assign rfl) rfl <| en_nil <| en_blk <| en_then <| en_region <| en_det (opT_add rfl rfl (by constructor <;> omega)) rfl <| en_det (opT_move rfl) rfl <| en_nil <| en_then <| ?_
      exact en_again (k + 1) (by omega) (by omega) ⟨rfl, rfl, rfl, rfl, rfl, rfl, rfl, gi rfl (by simp), trivial⟩ (.refl _) inferInstance
    · skip
      obtain rfl : k = b.nh := by omega
      rw [← hmt]
      refine en_exit <| en_then_exit <| en_then_exit <| en_blk_hit <| en_then <| en_region <| en_det (opT_move rfl) rfl <| en_det (opT_move rfl) rfl <| ?_
      refine en_op (opT_buildSlice (cs := [.int .i64 (mostT b t)]) rfl rfl (by kernel_rfl)) rfl fun _ _ _ _ ⟨b42, e1, e2, e3⟩ => ?_
      subst e1 e3; replace e2 := e2.symm; subst e2
      refine en_app1 rfl rfl rfl rfl rfl rfl rfl (by omega) fun ad43 cp43 hm43 hc43 => ?_
      refine en_det (opT_assign rfl) rfl <| en_nil <| en_blk <| en_then <| en_region <| en_det (opT_add rfl rfl (by constructor <;> omega)) rfl <| en_det (opT_move rfl) rfl <| en_nil <| en_then <| ?_
      refine en_again (t + 1, .slice ad43 (t + 1) cp43, h3) ⟨by simp only; omega, hs1.trans (hs2.trans hs3)⟩ (by simp only; omega) ⟨rfl, rfl, rfl, gi rfl (by simp), trivial⟩ (.refl _) (by
        simp only [List.range_succ, List.map_append, List.map_cons, List.map_nil]; exact inferInstance)
  · skip
    obtain rfl : t = b.nt := by omega
    refine en_exit <| en_then_exit <| en_then_exit <| en_blk_hit <| en_then <| en_seq <| en_region <| en_det (opT_move rfl) rfl <| en_det (opT_assign rfl) rfl <| en_nil <| en_then <| en_ret <| ?_
    refine en_freeze_own fun h2 hs2 hsl _ => ?_
    refine en_return (rs := [.tmp 2]) rfl (.cons (.tmp rfl) .nil) (hs1.trans hs2) (Γ1 := [Desk d (.slice tad b.nt tcp) hv wholeV b.hand]) ⟨by simpa [IsInts, mostL, resVal] using hsl, rfl⟩
end Go.Sx

/- The most of a belt; a sharing, a cut, a force. -/
namespace Go.Sx
open Go.Proofs
set_option maxRecDepth 100000

def mostA (b : BeltD) : Int := sumN b.nt fun t => mostT b t
theorem mostT_bound {b : BeltD} (hk : BOK b) (t : Nat) : 0 ≤ mostT b t ∧ mostT b t ≤ 200 := by
  have h := sumN_bound (n := b.nh) (f := fun i => sum5 ((shB b wholeD t (allH b)).1 i)) (B := 40) fun i hi => row_bound hk (out_ok b hk wholeD t (allH b) (allH_lt b)) hi
  have := hk.h5
  unfold mostT; omega
theorem mostL_length (b : BeltD) : (mostL b).length = b.nt := by simp [mostL]
theorem mostL_get {b : BeltD} {i : Nat} (hi : i < (mostL b).length) : (mostL b)[i] = mostT b i := by simp [mostL]
theorem at_nat {b : BeltD} {tray : Int} (hi : inD tray 0 (b.nt - 1) = true) : ∃ t : Nat, tray = t ∧ t < b.nt := by
  simp only [inD, decide_eq_true_eq] at hi
  exact ⟨tray.toNat, by omega, by omega⟩
theorem atD_zero {b : BeltD} {tray : Int} (hz : checkD b = 0) (hi : inD tray 0 (b.nt - 1) = true) : atD b tray = 0 := by simp [atD, hz, hi]
def MostR (b : BeltD) (v : Value) (h' : Heap) (Γ' : List HP) : Prop :=
  Γ' = [] ∧ ((checkD b = 0 ∧ ∃ lv, v = .tuple #[lv, .int .i64 (mostA b), .int .i64 0] ∧ IsInts h' lv (mostL b)) ∨ (checkD b ≠ 0 ∧ v = .tuple #[nilS, .int .i64 0, .int .i64 (checkD b)]))
def ShareR2 (b : BeltD) (tray : Int) (v : Value) (h' : Heap) (Γ' : List HP) : Prop :=
  Γ' = [] ∧ ((atD b tray = 0 ∧ ∃ sv, v = .tuple #[sv, .int .i64 0] ∧ IsTrays h' sv b.nh (shB b wholeD tray.toNat (allH b)).1) ∨ (atD b tray ≠ 0 ∧ v = .tuple #[nilS, .int .i64 (atD b tray)]))
def CutR (b : BeltD) (tray : Int) (v : Value) (h' : Heap) (Γ' : List HP) : Prop :=
  Γ' = [] ∧ ((atD b tray = 0 ∧ ∃ sv, v = .tuple #[sv, .int .i64 0] ∧ IsInts h' sv (setI (heldB b wholeD tray.toNat (allH b)))) ∨ (atD b tray ≠ 0 ∧ v = .tuple #[nilS, .int .i64 (atD b tray)]))
theorem heldL_lt {takes : Nat → Nat → Bool} {out : Nat → Nat → Int} {hs : List Nat} : ∀ {n s : Nat}, s < 32 → heldL takes out hs n s < 32
  | 0, s, h => h
  | n + 1, s, h => by
    unfold heldL; split
    · exact h
    · exact heldL_lt (heldR_rng h).1
theorem heldB_lt (b : BeltD) (want : (Nat → Int) → Nat → Int) (t : Nat) (hands : List Nat) : heldB b want t hands < 32 := heldL_lt (bitsP_lt (Nat.le_refl _) (by omega))
attribute [local irreducible] Code.wpIn wpListIn Exit.then Exit.inBlock BQ Again Hd St En OpT box blk RQ BQ0 fmap own Desk

theorem most21_ct (h : Heap) (tv hv : Value) (b : BeltD) (hb : IsBelt h (.agg #[tv, hv]) b) : CT Try.prog 21 [.agg #[tv, hv]] h [] (MostR b) := by
  have cA := opened_ct h tv hv b hb
  refine ct_intro Try.func21 rfl rfl rfl rfl fun Φ => ?_
  refine en_seq <| en_region <| en_box rfl rfl rfl fun b1 => en_det (opT_assign rfl) rfl <| en_det (opT_assign rfl) rfl <| en_det (opT_assign rfl) rfl <| en_nil <| en_then <| en_seq <| en_region <| ?_
  first | refine en_det (opT_loadW_own rfl rfl) rfl ?_ | refine en_det (opT_loadA_own rfl) rfl ?_
  refine en_call cA rfl rfl rfl rfl fun v h1 Γ' hs1 hv => ?_
  skip
  rcases hv with ⟨hz, d, rfl, rfl⟩ | ⟨hz, rfl, rfl⟩
  · refine en_norm ?_
    have hk := check_ok.1 hz
    refine en_det (opT_move rfl) rfl <| en_det (opT_extract rfl rfl) rfl <| en_det (opT_extract rfl rfl) rfl <| en_det (opT_assign rfl) rfl <| en_det (opT_assign rfl) rfl <| en_nil <| en_then <| en_seq <| en_seq <| en_region <| en_det (opT_move rfl) rfl <| en_det (opT_neq_f rfl rfl (by omega)) rfl <| en_nil <| en_then <| en_cond_f rfl <| en_skip <| en_then <| en_seq <| en_region <| en_det (opT_move rfl) rfl <| ?_
    refine en_call (most_ct h1 d tv hv b (hb.mono hs1) hk) rfl rfl rfl rfl fun v h2 Γ' hs2 hv' => ?_
    obtain ⟨hl, rfl⟩ := hv'
    refine en_norm ?_
    have hl0 := hl
    obtain ⟨ad, cp, rfl, h1', h2', hp⟩ := hl.shape
    have hn8 := hk.n8
    have hlen := mostL_length b
    have cS := add_ct h2 ad (mostL b).length cp (fun i => mostT b i) (by omega) (fun i _ => by have := mostT_bound hk i; omega) (fun h0 => by
      obtain ⟨q, off, e, hh⟩ := hp h0
      exact ⟨q, off, e, fun i hi => by rw [← mostL_get hi]; exact hh i hi⟩)
    have e : sumN (mostL b).length (fun i => mostT b i) = mostA b := by rw [hlen]; rfl
    rw [e] at cS
    refine en_det (opT_assign rfl) rfl <| en_nil <| en_then <| en_seq <| en_region <| en_det (opT_move rfl) rfl <| en_det (opT_move rfl) rfl <| en_calld (cS) rfl rfl rfl rfl <| en_det (opT_assign rfl) rfl <| en_det (opT_assign rfl) rfl <| en_det (opT_assign rfl) rfl <| en_nil <| en_then <| en_ret <| ?_
    refine en_return (rs := [.tmp 2, .tmp 3, .tmp 4]) rfl (.cons (.tmp rfl) (.cons (.tmp rfl) (.cons (.tmp rfl) .nil))) (hs1.trans hs2) (Γ1 := []) ⟨rfl, .inl ⟨hz, _, rfl, hl0⟩⟩
  · refine en_norm ?_
    refine en_det (opT_move rfl) rfl <| en_det (opT_extract rfl rfl) rfl <| en_det (opT_extract rfl rfl) rfl <| en_det (opT_assign rfl) rfl <| en_det (opT_assign rfl) rfl <| en_nil <| en_then <| en_seq <| en_seq <| en_region <| en_det (opT_move rfl) rfl <| en_det (opT_neq_t rfl rfl (by omega)) rfl <| en_nil <| en_then <| en_cond_t rfl <| en_seq <| en_region <| en_det (opT_move rfl) rfl <| en_det (opT_assign rfl) rfl <| en_det (opT_assign rfl) rfl <| en_det (opT_assign rfl) rfl <| en_nil <| en_then <| en_ret <| en_then_ret <| ?_
    refine en_return (rs := [.tmp 2, .tmp 3, .tmp 4]) rfl (.cons (.tmp rfl) (.cons (.tmp rfl) (.cons (.tmp rfl) .nil))) hs1 (Γ1 := []) ⟨rfl, .inr ⟨hz, rfl⟩⟩

theorem cut_ct (h : Heap) (tv hv : Value) (b : BeltD) (tray : Int) (hb : IsBelt h (.agg #[tv, hv]) b) : CT Try.prog 53 [.agg #[tv, hv], .int .i64 tray] h [] (CutR b tray) := by
  have cA := at_ct h tv hv b tray hb
  obtain ⟨hT, hH⟩ := belt_parts hb
  refine ct_intro Try.func53 rfl rfl rfl rfl fun Φ => ?_
  refine en_seq <| en_region <| en_box rfl rfl rfl fun b2 => en_det (opT_assign rfl) rfl <| en_det (opT_assign rfl) rfl <| en_nil <| en_then <| en_seq <| en_region <| ?_
  first | refine en_det (opT_loadW_own rfl rfl) rfl ?_ | refine en_det (opT_loadA_own rfl) rfl ?_
  refine en_det (opT_move rfl) rfl <| ?_
  refine en_call cA rfl rfl rfl rfl fun v h1 Γ' hs1 hv => ?_
  skip
  rcases hv with ⟨hz, hi, d, rfl, rfl⟩ | ⟨hz, rfl, rfl⟩
  · refine en_norm ?_
    have hk := check_ok.1 hz
    have h5 := hk.h5
    have haz := atD_zero hz hi
    obtain ⟨t, rfl, htn⟩ := at_nat hi
    refine en_det (opT_move rfl) rfl <| en_det (opT_extract rfl rfl) rfl <| en_det (opT_extract rfl rfl) rfl <| en_det (opT_assign rfl) rfl <| en_det (opT_assign rfl) rfl <| en_nil <| en_then <| en_seq <| en_seq <| en_region <| en_det (opT_move rfl) rfl <| en_det (opT_neq_f rfl rfl (by omega)) rfl <| en_nil <| en_then <| en_cond_f rfl <| en_skip <| en_then <| en_seq <| en_region <| en_det (opT_move rfl) rfl <| en_det (opT_move rfl) rfl <| en_det (opT_move rfl) rfl <| ?_
    refine en_call (hands_ct h1 d tv hv wholeV b.hand b.nh (hH.mono hs1) (by omega)) rfl rfl rfl rfl fun v h2 Γ' hs2 hv' => ?_
    obtain ⟨ho, rfl⟩ := hv'
    rw [upto_nats] at ho
    refine en_norm ?_
    refine en_call (shareB_ct h2 d t tv hv wholeV v b (allH b) wholeD (hb.mono (hs1.trans hs2)) hk htn (allH_lt b) (by rw [allH_len]; omega) ho (whole_want h2) (whole_w hk htn)) rfl rfl rfl rfl fun v3 h3 Γ' hs3 hv' => ?_
    obtain ⟨bo, rfl, rfl⟩ := hv'
    refine en_norm ?_
    refine en_det (opT_move rfl) rfl <| en_det (opT_extract rfl rfl) rfl <| en_det (opT_extract rfl rfl) rfl <| en_det (opT_extract rfl rfl) rfl <| en_alloc rfl fun b9 => ?_
    refine en_det (opT_assign rfl) rfl <| en_det0 (opT_storeW rfl rfl rfl rfl (one_trayL _)) <| en_det (opT_assign rfl) rfl <| en_nil <| en_then <| en_seq <| en_region <| en_det (opT_move rfl) rfl <| ?_
    refine en_call (list_ct h3 (heldB b wholeD t (allH b)) (heldB_lt _ _ _ _)) rfl rfl rfl rfl fun v4 h4 Γ' hs4 hv' => ?_
    obtain ⟨hl, rfl⟩ := hv'
    refine en_norm ?_
    refine en_det (opT_assign rfl) rfl <| en_det (opT_assign rfl) rfl <| en_nil <| en_then <| en_ret <| ?_
    refine en_return (rs := [.tmp 4, .tmp 5]) rfl (.cons (.tmp rfl) (.cons (.tmp rfl) .nil)) (hs1.trans (hs2.trans (hs3.trans hs4))) (Γ1 := []) ⟨rfl, .inl ⟨haz, _, rfl, hl⟩⟩
  · refine en_norm ?_
    refine en_det (opT_move rfl) rfl <| en_det (opT_extract rfl rfl) rfl <| en_det (opT_extract rfl rfl) rfl <| en_det (opT_assign rfl) rfl <| en_det (opT_assign rfl) rfl <| en_nil <| en_then <| en_seq <| en_seq <| en_region <| en_det (opT_move rfl) rfl <| en_det (opT_neq_t rfl rfl (by omega)) rfl <| en_nil <| en_then <| en_cond_t rfl <| en_seq <| en_region <| en_det (opT_move rfl) rfl <| en_det (opT_assign rfl) rfl <| en_det (opT_assign rfl) rfl <| en_nil <| en_then <| en_ret <| en_then_ret <| ?_
    refine en_return (rs := [.tmp 4, .tmp 5]) rfl (.cons (.tmp rfl) (.cons (.tmp rfl) .nil)) hs1 (Γ1 := []) ⟨rfl, .inr ⟨hz, rfl⟩⟩

def forceE (b : BeltD) (hand tray : Int) : Int := if checkD b = 0 then (if inD hand 0 (b.nh - 1) = true ∧ inD tray 0 (b.nt - 1) = true then 0 else 2) else checkD b
end Go.Sx

/- Which tray cannot be kept clean. -/
namespace Go.Sx
open Go.Proofs
set_option maxRecDepth 100000

def LeftOK (left : Nat → Int) : Prop := ∀ m, m < 5 → 0 ≤ left m ∧ left m ≤ 60
theorem kept_w {b : BeltD} (hk : BOK b) {left : Nat → Int} (hl : LeftOK left) {t : Nat} (ht : t < b.nt) : ∀ m, m < 5 → 0 ≤ keptD left (b.tray t) m ∧ keptD left (b.tray t) m ≤ 60 := fun m hm => by
  have := hk.tr t m ht hm
  have := hl m hm
  unfold keptD; omega
/-- Is something left of what is wanted? -/
def dirtyB (b : BeltD) (want : (Nat → Int) → Nat → Int) (hands : List Nat) (t : Nat) : Bool := !(allI 5 fun m => decide ((shB b want t hands).2 m = 0))
def firstB (b : BeltD) (want : (Nat → Int) → Nat → Int) (hands : List Nat) : Nat := ((List.range b.nt).find? (dirtyB b want hands)).getD b.nt
def firstS (b : BeltD) (want : (Nat → Int) → Nat → Int) (hands : List Nat) : Nat := if firstB b want hands = b.nt then 0 else heldB b want (firstB b want hands) hands
theorem first_at {b : BeltD} {want : (Nat → Int) → Nat → Int} {hands : List Nat} {k : Nat} (hk : k < b.nt) (hb : ∀ i, i < k → dirtyB b want hands i = false) (hp : dirtyB b want hands k = true) : firstB b want hands = k := by
  have : (List.range b.nt).find? (dirtyB b want hands) = some k := by
    rw [List.find?_eq_some_iff_getElem]
    refine ⟨hp, k, by simpa using hk, by simp, fun j hj => ?_⟩
    simp [hb j hj]
  simp [firstB, this]
theorem first_none {b : BeltD} {want : (Nat → Int) → Nat → Int} {hands : List Nat} (hb : ∀ i, i < b.nt → dirtyB b want hands i = false) : firstB b want hands = b.nt := by
  have : (List.range b.nt).find? (dirtyB b want hands) = none := by
    simp only [List.find?_eq_none]; intro x hx; have := hb x (by simpa using hx); simp [this]
  simp [firstB, this]
def cleanB (b : BeltD) (want : (Nat → Int) → Nat → Int) (hands : List Nat) : Bool := decide (firstB b want hands = b.nt)
theorem eg31 : Try.prog.eqGuardType Try.prog.depth 31 = false := by kernel_rfl
theorem zero5 : (List.range 5).map (fun m : Nat => (0 : Int)) = [0, 0, 0, 0, 0] := rfl
attribute [local irreducible] Code.wpIn wpListIn Exit.then Exit.inBlock BQ Again Hd St En OpT box blk RQ BQ0 fmap own Desk

theorem trayL_map (t : Nat → Int) : trayL t = ((List.range 5).map t).map (Value.int .i64) := by simp [trayL, row]
theorem held_ct (h : Heap) (d : Nat) (tv hv wv hdv : Value) (b : BeltD) (hands : List Nat) (want : (Nat → Int) → Nat → Int) (hb : IsBelt h (.agg #[tv, hv]) b) (hk : BOK b) (hlt : ∀ x ∈ hands, x < b.nh) (hlen : hands.length ≤ 1000) (hhd : IsInts h hdv (natsI hands)) (hW : Want h wv want)
    (hw : ∀ t, t < b.nt → ∀ m, m < 5 → 0 ≤ want (b.tray t) m ∧ want (b.tray t) m ≤ 60) :
    CT Try.prog 93 [.pointer (some ⟨d, 0, none⟩), hdv] h [Desk d tv hv wv b.hand] (fun v _ Γ' => v = .tuple #[.int .i64 (firstB b want hands), .int .i64 (firstS b want hands)] ∧ Γ' = [Desk d tv hv wv b.hand]) := by
  obtain ⟨hT, hH⟩ := belt_parts hb
  obtain ⟨_, tad, tcp, rfl, tm1, tc1, tp1⟩ := hT
  have hn8 := hk.n8
  have hh5 := hk.h5
  refine ct_intro Try.func93 rfl rfl rfl rfl fun Φ => ?_
  refine en_seq <| en_region <| en_det (opT_assign rfl) rfl <| en_det (opT_assign rfl) rfl <| en_nil <| en_then <| en_seq <| en_seq <| en_region <| en_det (opT_move rfl) rfl <| en_det (opT_nilCheck_p rfl) rfl <| en_det (opT_fieldAddr rfl) rfl <| en_det (opT_fieldAddr rfl) rfl <| ?_
  first | refine en_det (opT_desk0 rfl) rfl ?_ | refine en_det (opT_desk1 rfl) rfl ?_ | refine en_det (opT_desk3 rfl) rfl ?_ | refine en_det (opT_load_h rfl (by assumption)) rfl ?_ | refine en_det (opT_load_own rfl rfl) rfl ?_
  refine en_det (opT_len rfl) rfl <| en_det (opT_move rfl) rfl <| en_nil <| en_then <| en_block <| ?_
  refine en_loop (fun x : Nat × Heap => x.1 ≤ b.nt ∧ h.sub x.2 ∧ ∀ i, i < x.1 → dirtyB b want hands i = false) (fun x => [(0, .pointer (some ⟨d, 0, none⟩)), (1, hdv), (15, .int .i64 b.nt), (16, .int .i64 x.1)]) (fun x => x.2) (fun x => [Desk d (.slice tad b.nt tcp) hv wv b.hand]) (fun x => b.nt - x.1) (0, h) ⟨by simp, .refl _, fun i hi => by simp at hi⟩ ⟨rfl, rfl, rfl, rfl, trivial⟩ (.refl _) (tkAll _) fun x hx => ?_
  obtain ⟨t, h1⟩ := x
  obtain ⟨ht, hs1, hno⟩ := hx
  simp only at ht hs1 hno
  change En _ _ _ [(0, .pointer (some ⟨d, 0, none⟩)), (1, hdv), (15, .int .i64 b.nt), (16, .int .i64 t)] h1 [Desk d (.slice tad b.nt tcp) hv wv b.hand]
  refine en_seq <| en_region <| ?_
  first | refine en_det (opT_lss_t rfl rfl (by omega)) rfl ?_ | refine en_det (opT_lss_f rfl rfl (by omega)) rfl ?_ | refine en_det (opT_lss rfl rfl) rfl ?_
  refine en_nil <| en_then <| en_seq <| ?_
  refine en_if rfl (fun hlt1 => ?_) (fun hlt1 => ?_)
  · skip
    have htn : t < b.nt := by omega
    refine en_skip <| en_then <| en_seq <| en_block <| en_seq <| en_region <| en_det (opT_move rfl) rfl <| en_det (opT_assign rfl) rfl <| en_nil <| en_then <| en_seq <| en_region <| en_det (opT_move rfl) rfl <| en_det (opT_move rfl) rfl <| en_det (opT_move rfl) rfl <| ?_
    refine en_call (shareB_ct h1 d t (.slice tad b.nt tcp) hv wv hdv b hands want (hb.mono hs1) hk htn hlt hlen (hhd.mono hs1) (hW.mono hs1) (hw t htn)) rfl rfl rfl rfl fun v3 h3 Γ' hs3 hv' => ?_
    obtain ⟨bo, rfl, rfl⟩ := hv'
    refine en_norm ?_
    refine en_drop ?_
    have hneq : decide (((List.range 5).map (leftI (shB b want t hands).2)) ≠ ((List.range 5).map fun _ => (0 : Int))) = dirtyB b want hands t := by
      unfold dirtyB
      rw [Bool.eq_iff_iff]
      simp only [decide_eq_true_eq, Bool.not_eq_true', ← Bool.not_eq_true, allI_iff, ne_eq, List.map_inj_left, List.mem_range, leftI]
      constructor
      · intro hx hy; exact hx fun m hm => by have := hy m hm; omega
      · intro hx hy; exact hx fun m hm => by have := hy m hm; omega
    have hfS : firstB b want hands = t → firstS b want hands = heldB b want t hands := fun e => by
      unfold firstS; rw [e, if_neg (by omega)]
    generalize (shB b want t hands).2 = L at hneq ⊢
    generalize heldB b want t hands = s at hfS ⊢
    cases hdt : dirtyB b want hands t with
    | true =>
      have e1 := first_at htn hno hdt
      have e2 := hfS e1
      rw [hdt] at hneq
      skip
      refine en_det (opT_move rfl) rfl <| en_det (opT_extract rfl rfl) rfl <| en_det (opT_extract rfl rfl) rfl <| en_det (opT_extract rfl rfl) rfl <| en_alloc rfl fun b8 => ?_
      refine en_det (opT_assign rfl) rfl <| en_det0 (opT_storeW rfl rfl rfl rfl (one_trayL _)) <| en_det (opT_assign rfl) rfl <| en_nil <| en_then <| en_seq <| en_region <| ?_
      first | refine en_det (opT_loadW_own rfl rfl) rfl ?_ | refine en_det (opT_loadA_own rfl) rfl ?_
      refine en_det (opT_build (cs := [.int .i64 0, .int .i64 0, .int .i64 0, .int .i64 0, .int .i64 0]) rfl (by kernel_rfl)) rfl <| en_det ((hneq ▸ opT_neArr (xs := (List.range 5).map (leftI L)) (ys := (List.range 5).map fun _ => (0 : Int)) (mk := Value.int .i64) (fun w dep a b => eq_ints (P := Try.prog) (e := 3) inferInstance w dep a b) eg31 rfl rfl rfl rfl)) rfl <| en_nil <| en_then <| en_cond_t rfl <| en_seq <| en_region <| en_det (opT_move rfl) rfl <| en_det (opT_move rfl) rfl <| en_det (opT_assign rfl) rfl <| en_det (opT_assign rfl) rfl <| en_nil <| en_then <| en_ret <| en_blk_ret <| en_then_ret <| en_then_ret <| en_blk_ret <| en_then_ret <| ?_
      refine en_return (rs := [.tmp 4, .tmp 5]) rfl (.cons (.tmp rfl) (.cons (.tmp rfl) .nil)) (hs1.trans hs3) ⟨by rw [e1, e2]; rfl, rfl⟩
    | false =>
      rw [hdt] at hneq
      refine en_det (opT_move rfl) rfl <| en_det (opT_extract rfl rfl) rfl <| en_det (opT_extract rfl rfl) rfl <| en_det (opT_extract rfl rfl) rfl <| en_alloc rfl fun b8 => ?_
      refine en_det (opT_assign rfl) rfl <| en_det0 (opT_storeW rfl rfl rfl rfl (one_trayL _)) <| en_det (opT_assign rfl) rfl <| en_nil <| en_then <| en_seq <| en_region <| ?_
      first | refine en_det (opT_loadW_own rfl rfl) rfl ?_ | refine en_det (opT_loadA_own rfl) rfl ?_
      refine en_det (opT_build (cs := [.int .i64 0, .int .i64 0, .int .i64 0, .int .i64 0, .int .i64 0]) rfl (by kernel_rfl)) rfl <| en_det ((hneq ▸ opT_neArr (xs := (List.range 5).map (leftI L)) (ys := (List.range 5).map fun _ => (0 : Int)) (mk := Value.int .i64) (fun w dep a b => eq_ints (P := Try.prog) (e := 3) inferInstance w dep a b) eg31 rfl rfl rfl rfl)) rfl <| en_nil <| en_then <| en_cond_f rfl <| en_skip <| en_blk <| en_then <| en_region <| en_det (opT_add rfl rfl (by constructor <;> omega)) rfl <| en_det (opT_move rfl) rfl <| en_nil <| en_then <| ?_
      refine en_again (t + 1, h3) ⟨by simp only; omega, hs1.trans hs3, fun i hi => ?_⟩ (by simp only; omega) ⟨rfl, rfl, rfl, gi rfl (by simp), trivial⟩ (.refl _) inferInstance
      rcases Nat.lt_succ_iff_lt_or_eq.1 hi with hx | rfl
      · exact hno i hx
      · exact hdt
  · skip
    obtain rfl : t = b.nt := by omega
    have e1 := first_none hno
    have e2 : firstS b want hands = 0 := by unfold firstS; rw [if_pos e1]
    refine en_exit <| en_then_exit <| en_then_exit <| en_blk_hit <| en_then <| en_seq <| en_region <| en_det (opT_move rfl) rfl <| en_det (opT_nilCheck_p rfl) rfl <| en_det (opT_fieldAddr rfl) rfl <| en_det (opT_fieldAddr rfl) rfl <| ?_
    first | refine en_det (opT_desk0 rfl) rfl ?_ | refine en_det (opT_desk1 rfl) rfl ?_ | refine en_det (opT_desk3 rfl) rfl ?_ | refine en_det (opT_load_h rfl (by assumption)) rfl ?_ | refine en_det (opT_load_own rfl rfl) rfl ?_
    refine en_det (opT_len rfl) rfl <| en_det (opT_assign rfl) rfl <| en_det (opT_assign rfl) rfl <| en_nil <| en_then <| en_ret <| ?_
    refine en_return (rs := [.tmp 4, .tmp 5]) rfl (.cons (.tmp rfl) (.cons (.tmp rfl) .nil)) hs1 ⟨by rw [e1, e2]; rfl, rfl⟩
end Go.Sx

/- What can be kept clean; what holds up, and by how much; by how much a set bounds. -/
namespace Go.Sx
open Go.Proofs
set_option maxRecDepth 100000

def sumL (l : List Nat) (f : Nat → Int) : Int := (l.map f).sum
theorem sumL_append (l : List Nat) (m : Nat) (f : Nat → Int) : sumL (l ++ [m]) f = sumL l f + f m := by simp [sumL]
theorem firstS_lt (b : BeltD) (want : (Nat → Int) → Nat → Int) (hands : List Nat) : firstS b want hands < 32 := by
  unfold firstS; split
  · omega
  · exact heldB_lt _ _ _ _
theorem first_le (b : BeltD) (want : (Nat → Int) → Nat → Int) (hands : List Nat) : firstB b want hands ≤ b.nt := by
  unfold firstB
  cases h : (List.range b.nt).find? (dirtyB b want hands) with
  | none => simp
  | some k =>
    have := List.mem_of_find?_eq_some h
    simp only [List.mem_range] at this
    simp; omega
theorem bit_not : ∀ s : Fin 32, IntKind.i64.wrap (BitVec.ofInt IntKind.i64.bits 31 &&& ~~~ (BitVec.ofInt IntKind.i64.bits ((s : Nat) : Int))).toNat = ((31 - (s : Nat) : Nat) : Int) := by decide +kernel
theorem bitsOf_lt {l : List Int} (h : chosenE l = 0) : bitsOf l < 32 := by
  unfold chosenE at h
  split at h
  · cases h
  rename_i h1
  simp only [Bool.not_eq_true', Bool.not_eq_false] at h1
  rw [allI_iff] at h1
  have key : ∀ k, k ≤ l.length → bitsOf (l.take k) < 32 := fun k => by
    induction k with
    | zero => intro _; simp [bitsOf]
    | succ k ih =>
      intro hk
      have hk' : k < l.length := by omega
      have := h1 k hk'
      simp only [inD, decide_eq_true_eq, List.getD_eq_getElem?_getD, List.getElem?_eq_getElem hk', Option.getD_some] at this
      rw [List.take_succ_eq_append_getElem hk', bitsOf_append]
      exact or_lt (ih (by omega)) (by omega)
  have := key l.length (Nat.le_refl _)
  rwa [List.take_length] at this
def upN (b : BeltD) (left : Nat → Int) (t s : Nat) : Int := sumL (setL s) (keptD left (b.tray t)) - behindD b.hand b.nh t s
def upE (b : BeltD) (left : Nat → Int) (tray : Int) (l : List Int) : Int :=
  if keptE b left = 0 then (if inD tray 0 (b.nt - 1) = true then (if chosenE l = 0 then (if upN b left tray.toNat (bitsOf l) < 1 then 8 else 0) else chosenE l) else 2) else keptE b left
def bdN (b : BeltD) (t s : Nat) : Int := behindD b.hand b.nh t s + sumL (setL (31 - s)) (b.tray t)
def bdE (b : BeltD) (tray : Int) (l : List Int) : Int := if atD b tray = 0 then chosenE l else atD b tray
attribute [local irreducible] Code.wpIn wpListIn Exit.then Exit.inBlock BQ Again Hd St En OpT box blk RQ BQ0 fmap own Desk

theorem clean69_ct (h : Heap) (d : Nat) (tv hv wv hdv : Value) (b : BeltD) (hands : List Nat) (want : (Nat → Int) → Nat → Int) (hb : IsBelt h (.agg #[tv, hv]) b) (hk : BOK b) (hlt : ∀ x ∈ hands, x < b.nh) (hlen : hands.length ≤ 1000) (hhd : IsInts h hdv (natsI hands)) (hW : Want h wv want)
    (hw : ∀ t, t < b.nt → ∀ m, m < 5 → 0 ≤ want (b.tray t) m ∧ want (b.tray t) m ≤ 60) :
    CT Try.prog 69 [.pointer (some ⟨d, 0, none⟩), hdv] h [Desk d tv hv wv b.hand] (DetW (.bool (cleanB b want hands)) [Desk d tv hv wv b.hand]) := by
  have cH := held_ct h d tv hv wv hdv b hands want hb hk hlt hlen hhd hW hw
  obtain ⟨hT, hH⟩ := belt_parts hb
  obtain ⟨_, tad, tcp, rfl, tm1, tc1, tp1⟩ := hT
  refine ct_intro Try.func69 rfl rfl rfl rfl fun Φ => ?_
  refine en_seq <| en_region <| en_det (opT_assign rfl) rfl <| en_nil <| en_then <| en_seq <| en_region <| en_det (opT_move rfl) rfl <| en_det (opT_move rfl) rfl <| ?_
  refine en_call cH rfl rfl rfl rfl fun v h1 Γ' hs1 hv => ?_
  obtain ⟨rfl, rfl⟩ := hv
  refine en_norm ?_
  refine en_det (opT_move rfl) rfl <| en_det (opT_extract rfl rfl) rfl <| en_det (opT_extract rfl rfl) rfl <| en_det (opT_assign rfl) rfl <| en_det (opT_assign rfl) rfl <| en_nil <| en_then <| en_seq <| en_region <| en_det (opT_move rfl) rfl <| en_det (opT_move rfl) rfl <| en_det (opT_nilCheck_p rfl) rfl <| en_det (opT_fieldAddr rfl) rfl <| en_det (opT_fieldAddr rfl) rfl <| ?_
  first | refine en_det (opT_desk0 rfl) rfl ?_ | refine en_det (opT_desk1 rfl) rfl ?_ | refine en_det (opT_desk3 rfl) rfl ?_ | refine en_det (opT_load_h rfl (by assumption)) rfl ?_ | refine en_det (opT_load_own rfl rfl) rfl ?_
  refine en_det (opT_len rfl) rfl <| en_det (opT_eql rfl rfl) rfl <| en_det (opT_assign rfl) rfl <| en_nil <| en_then <| en_ret <| ?_
  refine en_return (rs := [.tmp 4]) rfl (.cons (.tmp rfl) .nil) hs1 ⟨by
    have : decide ((firstB b want hands : Int) = (b.nt : Int)) = cleanB b want hands := by unfold cleanB; rw [Bool.eq_iff_iff]; simp only [decide_eq_true_eq]; omega
    rw [← this]; rfl, rfl⟩

theorem clean16_ct (h : Heap) (tv hv : Value) (b : BeltD) (left : Nat → Int) (hb : IsBelt h (.agg #[tv, hv]) b) : CT Try.prog 16 [.agg #[tv, hv], .agg (trayL left).toArray] h []
    (fun v _ Γ' => v = .tuple #[.bool (if keptE b left = 0 then cleanB b (keptD left) (allH b) else false), .int .i64 (keptE b left)] ∧ Γ' = []) := by
  have cA := kept_ct h tv hv b left hb
  obtain ⟨hT, hH⟩ := belt_parts hb
  refine ct_intro Try.func16 rfl rfl rfl rfl fun Φ => ?_
  refine en_seq <| en_region <| en_box rfl rfl rfl fun b2 => en_box rfl rfl rfl fun b3 => en_det (opT_assign rfl) rfl <| en_det (opT_assign rfl) rfl <| en_nil <| en_then <| en_seq <| en_region <| ?_
  first | refine en_det (opT_loadW_own rfl rfl) rfl ?_ | refine en_det (opT_loadA_own rfl) rfl ?_
  first | refine en_det (opT_loadW_own rfl rfl) rfl ?_ | refine en_det (opT_loadA_own rfl) rfl ?_
  refine en_call cA rfl rfl rfl rfl fun v h1 Γ' hs1 hv => ?_
  skip
  rcases hv with ⟨hz, d, wv, rfl, hW, rfl⟩ | ⟨hz, rfl, rfl⟩
  · refine en_norm ?_
    have hz' : checkD b = 0 ∧ piecesD left = true := by
      unfold keptE at hz
      split at hz
      · rename_i h0
        split at hz
        · exact ⟨h0, ‹_›⟩
        · cases hz
      · rename_i h0; exact absurd hz h0
    have hk := check_ok.1 hz'.1
    have hl : LeftOK left := piecesD_iff.1 hz'.2
    have h5 := hk.h5
    rw [hz, if_pos rfl]
    refine en_det (opT_move rfl) rfl <| en_det (opT_extract rfl rfl) rfl <| en_det (opT_extract rfl rfl) rfl <| en_det (opT_assign rfl) rfl <| en_det (opT_assign rfl) rfl <| en_nil <| en_then <| en_seq <| en_region <| en_det (opT_move rfl) rfl <| en_det (opT_eql_t rfl rfl (by omega)) rfl <| en_det (opT_move rfl) rfl <| en_g_yes rfl rfl <| en_det (opT_move rfl) rfl <| en_g_yes rfl rfl <| en_det (opT_move rfl) rfl <| en_g_yes rfl rfl <| ?_
    refine en_call (hands_ct h1 d tv hv wv b.hand b.nh (hH.mono hs1) (by omega)) rfl rfl rfl rfl fun v h2 Γ' hs2 hv' => ?_
    obtain ⟨ho, rfl⟩ := hv'
    rw [upto_nats] at ho
    refine en_norm ?_
    refine en_g_yes rfl rfl <| en_calld (clean69_ct h2 d tv hv wv v b (allH b) (keptD left) (hb.mono (hs1.trans hs2)) hk (allH_lt b) (by rw [allH_len]; omega) ho (hW.mono hs2) (fun t ht => kept_w hk hl ht)) rfl rfl rfl rfl <| ?_
    first | refine en_det (opT_pick_t rfl rfl) rfl ?_ | refine en_det (opT_pick_f rfl rfl) rfl ?_
    refine en_det (opT_move rfl) rfl <| en_det (opT_assign rfl) rfl <| en_det (opT_assign rfl) rfl <| en_nil <| en_then <| en_ret <| ?_
    refine en_return (rs := [.tmp 4, .tmp 5]) rfl (.cons (.tmp rfl) (.cons (.tmp rfl) .nil)) (hs1.trans hs2) (Γ1 := []) ⟨rfl, rfl⟩
  · refine en_norm ?_
    rw [if_neg hz]
    refine en_det (opT_move rfl) rfl <| en_det (opT_extract rfl rfl) rfl <| en_det (opT_extract rfl rfl) rfl <| en_det (opT_assign rfl) rfl <| en_det (opT_assign rfl) rfl <| en_nil <| en_then <| en_seq <| en_region <| en_det (opT_move rfl) rfl <| en_det (opT_eql_f rfl rfl (by omega)) rfl <| en_det (opT_move rfl) rfl <| en_g_no rfl rfl rfl <| en_g_no rfl rfl rfl <| en_g_no rfl rfl rfl <| en_g_no rfl rfl rfl <| ?_
    first | refine en_det (opT_pick_t rfl rfl) rfl ?_ | refine en_det (opT_pick_f rfl rfl) rfl ?_
    refine en_det (opT_move rfl) rfl <| en_det (opT_assign rfl) rfl <| en_det (opT_assign rfl) rfl <| en_nil <| en_then <| en_ret <| ?_
    refine en_return (rs := [.tmp 4, .tmp 5]) rfl (.cons (.tmp rfl) (.cons (.tmp rfl) .nil)) hs1 (Γ1 := []) ⟨rfl, rfl⟩

def HeldR (b : BeltD) (left : Nat → Int) (v : Value) (h' : Heap) (Γ' : List HP) : Prop :=
  Γ' = [] ∧ ((keptE b left = 0 ∧ firstB b (keptD left) (allH b) = b.nt ∧ v = .tuple #[.int .i64 0, nilS, .int .i64 1]) ∨
    (keptE b left = 0 ∧ firstB b (keptD left) (allH b) < b.nt ∧ ∃ sv, v = .tuple #[.int .i64 (firstB b (keptD left) (allH b)), sv, .int .i64 0] ∧ IsInts h' sv (setI (firstS b (keptD left) (allH b)))) ∨
    (keptE b left ≠ 0 ∧ v = .tuple #[.int .i64 0, nilS, .int .i64 (keptE b left)]))
theorem held41_ct (h : Heap) (tv hv : Value) (b : BeltD) (left : Nat → Int) (hb : IsBelt h (.agg #[tv, hv]) b) : CT Try.prog 41 [.agg #[tv, hv], .agg (trayL left).toArray] h [] (HeldR b left) := by
  have cA := kept_ct h tv hv b left hb
  obtain ⟨hT, hH⟩ := belt_parts hb
  obtain ⟨_, tad, tcp, rfl, tm1, tc1, tp1⟩ := hT
  refine ct_intro Try.func41 rfl rfl rfl rfl fun Φ => ?_
  refine en_seq <| en_region <| en_box rfl rfl rfl fun b2 => en_box rfl rfl rfl fun b3 => en_det (opT_assign rfl) rfl <| en_det (opT_assign rfl) rfl <| en_det (opT_assign rfl) rfl <| en_nil <| en_then <| en_seq <| en_region <| ?_
  first | refine en_det (opT_loadW_own rfl rfl) rfl ?_ | refine en_det (opT_loadA_own rfl) rfl ?_
  first | refine en_det (opT_loadW_own rfl rfl) rfl ?_ | refine en_det (opT_loadA_own rfl) rfl ?_
  refine en_call cA rfl rfl rfl rfl fun v h1 Γ' hs1 hv' => ?_
  skip
  rcases hv' with ⟨hz, d, wv, rfl, hW, rfl⟩ | ⟨hz, rfl, rfl⟩
  · refine en_norm ?_
    have hz' : checkD b = 0 ∧ piecesD left = true := by
      unfold keptE at hz
      split at hz
      · rename_i h0
        split at hz
        · exact ⟨h0, ‹_›⟩
        · cases hz
      · rename_i h0; exact absurd hz h0
    have hk := check_ok.1 hz'.1
    have hl : LeftOK left := piecesD_iff.1 hz'.2
    have h5 := hk.h5
    refine en_det (opT_move rfl) rfl <| en_det (opT_extract rfl rfl) rfl <| en_det (opT_extract rfl rfl) rfl <| en_det (opT_assign rfl) rfl <| en_det (opT_assign rfl) rfl <| en_nil <| en_then <| en_seq <| en_seq <| en_region <| en_det (opT_move rfl) rfl <| en_det (opT_neq_f rfl rfl (by omega)) rfl <| en_nil <| en_then <| en_cond_f rfl <| en_skip <| en_then <| en_seq <| en_region <| en_det (opT_move rfl) rfl <| en_det (opT_move rfl) rfl <| ?_
    refine en_call (hands_ct h1 d (.slice tad b.nt tcp) hv wv b.hand b.nh (hH.mono hs1) (by omega)) rfl rfl rfl rfl fun v h2 Γ' hs2 hv' => ?_
    obtain ⟨ho, rfl⟩ := hv'
    rw [upto_nats] at ho
    refine en_norm ?_
    refine en_call (held_ct h2 d (.slice tad b.nt tcp) hv wv v b (allH b) (keptD left) (hb.mono (hs1.trans hs2)) hk (allH_lt b) (by rw [allH_len]; omega) ho (hW.mono hs2) (fun t ht => kept_w hk hl ht)) rfl rfl rfl rfl fun v h3 Γ' hs3 hv' => ?_
    obtain ⟨rfl, rfl⟩ := hv'
    refine en_norm ?_
    have hle := first_le b (keptD left) (allH b)
    skip
    by_cases hf : firstB b (keptD left) (allH b) = b.nt
    · refine en_det (opT_move rfl) rfl <| en_det (opT_extract rfl rfl) rfl <| en_det (opT_extract rfl rfl) rfl <| en_det (opT_assign rfl) rfl <| en_det (opT_assign rfl) rfl <| en_nil <| en_then <| en_seq <| en_seq <| en_region <| en_det (opT_move rfl) rfl <| en_det (opT_fieldAddr rfl) rfl <| en_det (opT_load_own rfl rfl) rfl <| en_det (opT_len rfl) rfl <| en_det (opT_eql_t rfl rfl (by omega)) rfl <| en_nil <| en_then <| en_cond_t rfl <| en_seq <| en_region <| en_det (opT_assign rfl) rfl <| en_det (opT_assign rfl) rfl <| en_det (opT_assign rfl) rfl <| en_nil <| en_then <| en_ret <| en_then_ret <| ?_
      refine en_return (rs := [.tmp 4, .tmp 5, .tmp 6]) rfl (.cons (.tmp rfl) (.cons (.tmp rfl) (.cons (.tmp rfl) .nil))) (hs1.trans (hs2.trans hs3)) (Γ1 := []) ⟨rfl, .inl ⟨hz, hf, rfl⟩⟩
    · skip
      refine en_det (opT_move rfl) rfl <| en_det (opT_extract rfl rfl) rfl <| en_det (opT_extract rfl rfl) rfl <| en_det (opT_assign rfl) rfl <| en_det (opT_assign rfl) rfl <| en_nil <| en_then <| en_seq <| en_seq <| en_region <| en_det (opT_move rfl) rfl <| en_det (opT_fieldAddr rfl) rfl <| en_det (opT_load_own rfl rfl) rfl <| en_det (opT_len rfl) rfl <| en_det (opT_eql_f rfl rfl (by omega)) rfl <| en_nil <| en_then <| en_cond_f rfl <| en_skip <| en_then <| en_seq <| en_region <| en_det (opT_move rfl) rfl <| en_det (opT_move rfl) rfl <| ?_
      refine en_call (list_ct h3 (firstS b (keptD left) (allH b)) (firstS_lt _ _ _)) rfl rfl rfl rfl fun v4 h4 Γ' hs4 hv' => ?_
      obtain ⟨hli, rfl⟩ := hv'
      refine en_norm ?_
      refine en_det (opT_assign rfl) rfl <| en_det (opT_assign rfl) rfl <| en_det (opT_assign rfl) rfl <| en_nil <| en_then <| en_ret <| ?_
      refine en_return (rs := [.tmp 4, .tmp 5, .tmp 6]) rfl (.cons (.tmp rfl) (.cons (.tmp rfl) (.cons (.tmp rfl) .nil))) (hs1.trans (hs2.trans (hs3.trans hs4))) (Γ1 := []) ⟨rfl, .inr (.inl ⟨hz, by omega, _, rfl, hli⟩)⟩
  · refine en_norm ?_
    refine en_det (opT_move rfl) rfl <| en_det (opT_extract rfl rfl) rfl <| en_det (opT_extract rfl rfl) rfl <| en_det (opT_assign rfl) rfl <| en_det (opT_assign rfl) rfl <| en_nil <| en_then <| en_seq <| en_seq <| en_region <| en_det (opT_move rfl) rfl <| en_det (opT_neq_t rfl rfl (by omega)) rfl <| en_nil <| en_then <| en_cond_t rfl <| en_seq <| en_region <| en_det (opT_move rfl) rfl <| en_det (opT_assign rfl) rfl <| en_det (opT_assign rfl) rfl <| en_det (opT_assign rfl) rfl <| en_nil <| en_then <| en_ret <| en_then_ret <| ?_
    refine en_return (rs := [.tmp 4, .tmp 5, .tmp 6]) rfl (.cons (.tmp rfl) (.cons (.tmp rfl) (.cons (.tmp rfl) .nil))) hs1 (Γ1 := []) ⟨rfl, .inr (.inr ⟨hz, rfl⟩)⟩
end Go.Sx

/- By how much a set bounds a tray, by how much it holds one up. -/
namespace Go.Sx
open Go.Proofs
set_option maxRecDepth 100000
theorem sumL_take {l : List Nat} {i m : Nat} (f : Nat → Int) (h : l[i]? = some m) : sumL (l.take (i + 1)) f = sumL (l.take i) f + f m := by
  rw [take_succ_of h, sumL_append]
theorem sumL_bound {l : List Nat} {f : Nat → Int} (h : ∀ m, m ∈ l → 0 ≤ f m ∧ f m ≤ 60) : 0 ≤ sumL l f ∧ sumL l f ≤ 60 * l.length := by
  induction l with
  | nil => simp [sumL]
  | cons m l ih =>
    have h1 := h m (by simp)
    have h2 := ih fun x hx => h x (by simp [hx])
    simp only [sumL, List.map_cons, List.sum_cons, List.length_cons] at *
    omega
theorem setL_len (s : Nat) : (setL s).length ≤ 5 := Nat.le_trans (List.length_filter_le _ _) (by simp)
theorem setL_mem {s m : Nat} (h : m ∈ setL s) : m < 5 := by simp only [setL, List.mem_filter, List.mem_range] at h; exact h.1
theorem behind_bound {b : BeltD} (hk : BOK b) (t s : Nat) : 0 ≤ behindD b.hand b.nh t s ∧ behindD b.hand b.nh t s ≤ 200 := by
  have := sumN_bound (n := b.nh) (f := fun i => if anyTake (b.hand i) s = true then forceD (b.hand i) t else 0) (B := 40) fun i hi => by
    have := forceD_bound (hk.ok i hi) t
    split <;> omega
  have := hk.h5
  unfold behindD; omega
attribute [local irreducible] Code.wpIn wpListIn Exit.then Exit.inBlock BQ Again Hd St En OpT box blk RQ BQ0 fmap own Desk

theorem bounds_ct (h : Heap) (tv hv lv : Value) (b : BeltD) (tray : Int) (l : List Int) (hb : IsBelt h (.agg #[tv, hv]) b) (hlv : IsInts h lv l) : CT Try.prog 56 [.agg #[tv, hv], .int .i64 tray, lv] h []
    (fun v _ Γ' => v = .tuple #[.int .i64 (if bdE b tray l = 0 then bdN b tray.toNat (bitsOf l) else 0), .int .i64 (bdE b tray l)] ∧ Γ' = []) := by
  have cA := at_ct h tv hv b tray hb
  obtain ⟨hT, hH⟩ := belt_parts hb
  have hT0 := hT
  obtain ⟨_, tad, tcp, rfl, tm1, tc1, tp1⟩ := hT
  refine ct_intro Try.func56 rfl rfl rfl rfl fun Φ => ?_
  refine en_seq <| en_region <| en_box rfl rfl rfl fun b3 => en_box rfl rfl rfl fun b4 => en_det (opT_assign rfl) rfl <| en_det (opT_assign rfl) rfl <| en_nil <| en_then <| en_seq <| en_region <| ?_
  first | refine en_det (opT_loadW_own rfl rfl) rfl ?_ | refine en_det (opT_loadA_own rfl) rfl ?_
  refine en_det (opT_load_own rfl rfl) rfl <| ?_
  refine en_call cA rfl rfl rfl rfl fun v h1 Γ' hs1 hv' => ?_
  skip
  rcases hv' with ⟨hz, hi, d, rfl, rfl⟩ | ⟨hz, rfl, rfl⟩
  · refine en_norm ?_
    have hk := check_ok.1 hz
    have h5 := hk.h5
    have h8 := hk.n8
    have haz := atD_zero hz hi
    obtain ⟨t, rfl, htn⟩ := at_nat hi
    have cC := chosen_ct h1 lv l (hlv.mono hs1)
    by_cases hc : chosenE l = 0
    · have e1 : bdE b t l = 0 := by simp [bdE, haz, hc]
      rw [e1, if_pos rfl]
      rw [hc, if_pos rfl] at cC
      have hs32 := bitsOf_lt hc
      have hbn := bit_not ⟨bitsOf l, hs32⟩
      have e2 : bdN b t (bitsOf l) = behindD b.hand b.nh t (bitsOf l) + sumL (setL (31 - bitsOf l)) (b.tray t) := rfl
      rw [Int.toNat_natCast, e2]
      generalize bitsOf l = s at hs32 hbn cC ⊢
      have hbb := behind_bound hk t s
      refine en_det (opT_move rfl) rfl <| en_det (opT_extract rfl rfl) rfl <| en_det (opT_extract rfl rfl) rfl <| en_det (opT_assign rfl) rfl <| en_det (opT_assign rfl) rfl <| en_nil <| en_then <| en_seq <| en_seq <| en_region <| en_det (opT_move rfl) rfl <| en_det (opT_neq_f rfl rfl (by omega)) rfl <| en_nil <| en_then <| en_cond_f rfl <| en_skip <| en_then <| en_seq <| en_region <| en_det (opT_move rfl) rfl <| en_calld (cC) rfl rfl rfl rfl <| en_det (opT_move rfl) rfl <| en_det (opT_extract rfl rfl) rfl <| en_det (opT_extract rfl rfl) rfl <| en_det (opT_assign rfl) rfl <| en_det (opT_assign rfl) rfl <| en_nil <| en_then <| en_seq <| en_seq <| en_region <| en_det (opT_move rfl) rfl <| en_det (opT_neq_f rfl rfl (by omega)) rfl <| en_nil <| en_then <| en_cond_f rfl <| en_skip <| en_then <| en_seq <| en_region <| en_det (opT_move rfl) rfl <| en_det ((hbn ▸ opT_andNot rfl rfl)) rfl <| en_det (opT_assign rfl) rfl <| en_nil <| en_then <| en_seq <| en_region <| en_det (opT_move rfl) rfl <| en_det (opT_load_own rfl rfl) rfl <| en_det (opT_move rfl) rfl <| ?_
      refine en_call (behind_ct h1 d (.slice tad b.nt tcp) hv wholeV b.hand b.nh t s (hH.mono hs1) (by omega) hk.ok (by omega) hs32) rfl rfl rfl rfl fun v h2 Γ' hs2 hv' => ?_
      obtain ⟨rfl, rfl⟩ := hv'
      refine en_norm ?_
      generalize behindD b.hand b.nh t s = B at hbb ⊢
      refine en_alloc rfl fun b12 => ?_
      refine en_det0 (opT_store1 rfl rfl rfl) <| en_nil <| en_then <| en_seq <| en_seq <| en_region <| en_det (opT_move rfl) rfl <| ?_
      refine en_call (materials_ct h2 (31 - s) (by omega)) rfl rfl rfl rfl fun v h3 Γ7 hs3 hR => ?_
      obtain ⟨bm, rfl, hit, rfl⟩ := hR
      refine en_norm ?_
      refine en_keep [box b12 3 [.int .i64 B], box b3 26 [.slice tad b.nt tcp, hv], box b4 3 [.int .i64 t]] ?_
      refine en_nil <| en_then <| en_block <| ?_
      obtain ⟨tb, toff, rfl, tcells⟩ := tp1 (by omega)
      refine en_range (fun j _ Γ' => Γ' = [box b12 3 [.int .i64 (B + sumL ((setL (31 - s)).take j) (b.tray t))], box b3 26 [.slice (some ⟨tb, toff, none⟩) b.nt tcp, hv], box b4 3 [.int .i64 t]]) (fun _ _ _ => False) rfl rfl hit (by simp [sumL]) (fun l r Ψ i v h' Γ' hi hs hJ => ?_) (fun h' Γ' hs hJ => ?_) (fun c h' Γ' hs hX => ?_)
      · skip
        obtain rfl := hJ
        obtain ⟨m, rfl, hm', hm5⟩ := setV_get hi
        have hstep := sumL_take (b.tray t) hm'
        have hsb := sumL_bound (l := (setL (31 - s)).take i) (f := b.tray t) fun x hx => hk.tr t x htn (setL_mem (List.mem_of_mem_take hx))
        have hlen := setL_len (31 - s)
        have hlen2 : ((setL (31 - s)).take i).length ≤ 5 := by rw [List.length_take]; omega
        have htm := hk.tr t m htn hm5
        have hce := cellH_sub (hs1.trans (hs2.trans (hs3.trans hs))) (tcells.cell htn hm5)
        have hcv : icell b.tray t m = .int .i64 (b.tray t m) := rfl
        rw [hcv] at hce
        have e9 : B + sumL ((setL (31 - s)).take i) (b.tray t) + b.tray t m = B + sumL ((setL (31 - s)).take (i + 1)) (b.tray t) := by omega
        refine en_region <| en_det (opT_assign rfl) rfl <| en_nil <| en_begin <| en_block <| en_draw0 [0, 1, 2, 3, 4, 5, 6, 7, 8, 9] (by kernel_rfl) (by decide +kernel) (by decide +kernel) (by decide) <| dp_q rfl (opT_load_own rfl rfl) rfl rfl rfl <| dp_p rfl (fun _ _ => opT_fieldAddr rfl) rfl rfl rfl <| dp_q rfl (opT_load_own rfl rfl) rfl rfl rfl <| dp_q rfl (opT_load_own rfl rfl) rfl rfl rfl <| dp_p rfl (fun _ _ => opT_move rfl) rfl rfl rfl <| ?_
        first | refine dp_p rfl (fun _ _ => opT_idx1 rfl rfl (by omega) (by omega)) rfl rfl rfl ?_ | refine dp_p rfl (fun _ _ => opT_idx (ks := 0) rfl rfl (by omega) (by omega)) rfl rfl rfl ?_
        refine dp_p rfl (fun _ _ => opT_idxArr rfl rfl (by omega) (by omega)) rfl rfl rfl <| ?_
        first | refine dp_q rfl (opT_desk0 rfl) rfl rfl rfl ?_ | refine dp_q rfl (opT_desk1 rfl) rfl rfl rfl ?_ | refine dp_q rfl (opT_desk3 rfl) rfl rfl rfl ?_ | refine dp_q rfl (opT_load_h rfl (by assumption)) rfl rfl rfl ?_ | refine dp_q rfl (opT_load_own rfl rfl) rfl rfl rfl ?_
        refine dp_p rfl (fun _ _ => opT_add rfl rfl (by constructor <;> omega)) rfl rfl rfl <| dp_td0 rfl (opT_store1 rfl rfl rfl) rfl rfl rfl rfl rfl <| dp_done0 <| en_blk <| ?_
        rw [e9]
        exact en_rq_n (.refl _) rfl
      · skip
        obtain rfl := hJ
        have e9 : (setL (31 - s)).take (setV (31 - s)).length = setL (31 - s) := by simp [setV]
        rw [e9]
        refine en_blk <| en_then <| en_seq <| en_region <| en_det (opT_load_own rfl rfl) rfl <| en_det (opT_assign rfl) rfl <| en_det (opT_assign rfl) rfl <| en_nil <| en_then <| en_ret <| ?_
        refine en_return (rs := [.tmp 6, .tmp 7]) rfl (.cons (.tmp rfl) (.cons (.tmp rfl) .nil)) (hs1.trans (hs2.trans (hs3.trans hs))) (Γ1 := []) ⟨rfl, rfl⟩
      · exact hX.elim
    · have e1 : bdE b t l = chosenE l := by simp [bdE, haz]
      rw [e1, if_neg hc]
      rw [if_neg hc] at cC
      refine en_det (opT_move rfl) rfl <| en_det (opT_extract rfl rfl) rfl <| en_det (opT_extract rfl rfl) rfl <| en_det (opT_assign rfl) rfl <| en_det (opT_assign rfl) rfl <| en_nil <| en_then <| en_seq <| en_seq <| en_region <| en_det (opT_move rfl) rfl <| en_det (opT_neq_f rfl rfl (by omega)) rfl <| en_nil <| en_then <| en_cond_f rfl <| en_skip <| en_then <| en_seq <| en_region <| en_det (opT_move rfl) rfl <| en_calld (cC) rfl rfl rfl rfl <| en_det (opT_move rfl) rfl <| en_det (opT_extract rfl rfl) rfl <| en_det (opT_extract rfl rfl) rfl <| en_det (opT_assign rfl) rfl <| en_det (opT_assign rfl) rfl <| en_nil <| en_then <| en_seq <| en_seq <| en_region <| en_det (opT_move rfl) rfl <| en_det (opT_neq_t rfl rfl (by omega)) rfl <| en_nil <| en_then <| en_cond_t rfl <| en_seq <| en_region <| en_det (opT_move rfl) rfl <| en_det (opT_assign rfl) rfl <| en_det (opT_assign rfl) rfl <| en_nil <| en_then <| en_ret <| en_then_ret <| ?_
      refine en_return (rs := [.tmp 6, .tmp 7]) rfl (.cons (.tmp rfl) (.cons (.tmp rfl) .nil)) hs1 (Γ1 := []) ⟨rfl, rfl⟩
  · refine en_norm ?_
    have e1 : bdE b tray l = atD b tray := by simp [bdE, hz]
    rw [e1, if_neg hz]
    refine en_det (opT_move rfl) rfl <| en_det (opT_extract rfl rfl) rfl <| en_det (opT_extract rfl rfl) rfl <| en_det (opT_assign rfl) rfl <| en_det (opT_assign rfl) rfl <| en_nil <| en_then <| en_seq <| en_seq <| en_region <| en_det (opT_move rfl) rfl <| en_det (opT_neq_t rfl rfl (by omega)) rfl <| en_nil <| en_then <| en_cond_t rfl <| en_seq <| en_region <| en_det (opT_move rfl) rfl <| en_det (opT_assign rfl) rfl <| en_det (opT_assign rfl) rfl <| en_nil <| en_then <| en_ret <| en_then_ret <| ?_
    refine en_return (rs := [.tmp 6, .tmp 7]) rfl (.cons (.tmp rfl) (.cons (.tmp rfl) .nil)) hs1 (Γ1 := []) ⟨rfl, rfl⟩
end Go.Sx

/- By how much a set holds a tray up. -/
namespace Go.Sx
open Go.Proofs
set_option maxRecDepth 100000
attribute [local irreducible] Code.wpIn wpListIn Exit.then Exit.inBlock BQ Again Hd St En OpT box blk RQ BQ0 fmap own Desk
theorem kept_zero {b : BeltD} {left : Nat → Int} (hz : keptE b left = 0) : checkD b = 0 ∧ piecesD left = true := by
  unfold keptE at hz
  split at hz
  · rename_i h0
    split at hz
    · exact ⟨h0, ‹_›⟩
    · cases hz
  · rename_i h0; exact absurd hz h0

theorem heldup_ct (h : Heap) (tv hv lv : Value) (b : BeltD) (left : Nat → Int) (tray : Int) (l : List Int) (hb : IsBelt h (.agg #[tv, hv]) b) (hlv : IsInts h lv l) : CT Try.prog 42 [.agg #[tv, hv], .agg (trayL left).toArray, .int .i64 tray, lv] h []
    (fun v _ Γ' => v = .tuple #[.int .i64 (if upE b left tray l = 0 then upN b left tray.toNat (bitsOf l) else 0), .int .i64 (upE b left tray l)] ∧ Γ' = []) := by
  have cA := kept_ct h tv hv b left hb
  obtain ⟨hT, hH⟩ := belt_parts hb
  obtain ⟨_, tad, tcp, rfl, tm1, tc1, tp1⟩ := hT
  refine ct_intro Try.func42 rfl rfl rfl rfl fun Φ => ?_
  refine en_seq <| en_region <| en_box rfl rfl rfl fun b4 => en_box rfl rfl rfl fun b5 => en_box rfl rfl rfl fun b6 => en_det (opT_assign rfl) rfl <| en_det (opT_assign rfl) rfl <| en_nil <| en_then <| en_seq <| en_region <| ?_
  first | refine en_det (opT_loadW_own rfl rfl) rfl ?_ | refine en_det (opT_loadA_own rfl) rfl ?_
  first | refine en_det (opT_loadW_own rfl rfl) rfl ?_ | refine en_det (opT_loadA_own rfl) rfl ?_
  refine en_call cA rfl rfl rfl rfl fun v h1 Γ' hs1 hv' => ?_
  skip
  rcases hv' with ⟨hz, d, wv, rfl, hW, rfl⟩ | ⟨hz, rfl, rfl⟩
  · refine en_norm ?_
    have hk := check_ok.1 (kept_zero hz).1
    have hl : LeftOK left := piecesD_iff.1 (kept_zero hz).2
    have h5 := hk.h5
    have h8 := hk.n8
    have cI := in_ct tray 0 (b.nt - 1) h1
    cases hi0 : inD tray 0 (b.nt - 1) with
    | false =>
      rw [hi0] at cI
      have e : upE b left tray l = 2 := by simp [upE, hz, hi0]
      rw [e]
      refine en_det (opT_move rfl) rfl <| en_det (opT_extract rfl rfl) rfl <| en_det (opT_extract rfl rfl) rfl <| en_alloc rfl fun b10 => ?_
      refine en_det0 (opT_store1 rfl rfl rfl) <| en_det (opT_assign rfl) rfl <| en_nil <| en_then <| en_seq <| en_block <| en_seq <| en_region <| en_det (opT_move rfl) rfl <| en_det (opT_neq_f rfl rfl (by omega)) rfl <| en_det (opT_assign rfl) rfl <| en_nil <| en_then <| en_cond_f rfl <| en_seq <| en_region <| en_det (opT_load_own rfl rfl) rfl <| en_det (opT_fieldAddr rfl) rfl <| en_det (opT_load_own rfl rfl) rfl <| en_det (opT_len rfl) rfl <| en_det (opT_sub rfl rfl (by constructor <;> omega)) rfl <| en_calld (cI) rfl rfl rfl rfl <| ?_
      first | refine en_det (opT_not_t rfl) rfl ?_ | refine en_det (opT_not_f rfl) rfl ?_ | refine en_det (opT_not rfl) rfl ?_
      refine en_det (opT_assign rfl) rfl <| en_nil <| en_then <| en_cond_t rfl <| en_seq <| en_region <| en_det (opT_assign rfl) rfl <| en_det (opT_assign rfl) rfl <| en_nil <| en_then <| en_ret <| en_blk_ret <| en_then_ret <| ?_
      refine en_return (rs := [.tmp 8, .tmp 9]) rfl (.cons (.tmp rfl) (.cons (.tmp rfl) .nil)) hs1 (Γ1 := []) ⟨rfl, rfl⟩
    | true =>
      rw [hi0] at cI
      obtain ⟨t, rfl, htn⟩ := at_nat hi0
      have cC := chosen_ct h1 lv l (hlv.mono hs1)
      by_cases hc : chosenE l = 0
      · have e1 : upE b left t l = if upN b left t (bitsOf l) < 1 then 8 else 0 := by simp [upE, hz, hi0, hc]
        rw [e1, Int.toNat_natCast]
        rw [hc, if_pos rfl] at cC
        have hs32 := bitsOf_lt hc
        have e2 : upN b left t (bitsOf l) = sumL (setL (bitsOf l)) (keptD left (b.tray t)) - behindD b.hand b.nh t (bitsOf l) := rfl
        rw [e2]
        generalize bitsOf l = s at hs32 cC ⊢
        have hbb := behind_bound hk t s
        refine en_det (opT_move rfl) rfl <| en_det (opT_extract rfl rfl) rfl <| en_det (opT_extract rfl rfl) rfl <| en_alloc rfl fun b10 => ?_
        refine en_det0 (opT_store1 rfl rfl rfl) <| en_det (opT_assign rfl) rfl <| en_nil <| en_then <| en_seq <| en_block <| en_seq <| en_region <| en_det (opT_move rfl) rfl <| en_det (opT_neq_f rfl rfl (by omega)) rfl <| en_det (opT_assign rfl) rfl <| en_nil <| en_then <| en_cond_f rfl <| en_seq <| en_region <| en_det (opT_load_own rfl rfl) rfl <| en_det (opT_fieldAddr rfl) rfl <| en_det (opT_load_own rfl rfl) rfl <| en_det (opT_len rfl) rfl <| en_det (opT_sub rfl rfl (by constructor <;> omega)) rfl <| en_calld (cI) rfl rfl rfl rfl <| ?_
        first | refine en_det (opT_not_t rfl) rfl ?_ | refine en_det (opT_not_f rfl) rfl ?_ | refine en_det (opT_not rfl) rfl ?_
        refine en_det (opT_assign rfl) rfl <| en_nil <| en_then <| en_cond_f rfl <| en_skip <| en_blk <| en_then <| en_seq <| en_region <| en_det (opT_move rfl) rfl <| en_calld (cC) rfl rfl rfl rfl <| en_det (opT_move rfl) rfl <| en_det (opT_extract rfl rfl) rfl <| en_det (opT_extract rfl rfl) rfl <| en_det (opT_assign rfl) rfl <| en_det (opT_assign rfl) rfl <| en_nil <| en_then <| en_seq <| en_seq <| en_region <| en_det (opT_move rfl) rfl <| en_det (opT_neq_f rfl rfl (by omega)) rfl <| en_nil <| en_then <| en_cond_f rfl <| en_skip <| en_then <| en_seq <| en_region <| en_det (opT_load_own rfl rfl) rfl <| en_det (opT_load_own rfl rfl) rfl <| en_det (opT_move rfl) rfl <| ?_
        refine en_call (behind_ct h1 d (.slice tad b.nt tcp) hv wv b.hand b.nh t s (hH.mono hs1) (by omega) hk.ok (by omega) hs32) rfl rfl rfl rfl fun v h2 Γ' hs2 hv' => ?_
        obtain ⟨rfl, rfl⟩ := hv'
        refine en_norm ?_
        generalize behindD b.hand b.nh t s = B at hbb ⊢
        refine en_det (opT_neg rfl (by constructor <;> omega)) rfl <| en_alloc rfl fun b13 => ?_
        refine en_det0 (opT_store1 rfl rfl rfl) <| en_nil <| en_then <| en_seq <| en_seq <| en_region <| en_det (opT_move rfl) rfl <| ?_
        refine en_call (materials_ct h2 s hs32) rfl rfl rfl rfl fun v h3 Γ7 hs3 hR => ?_
        obtain ⟨bm, rfl, hit, rfl⟩ := hR
        refine en_norm ?_
        change En _ _ _ _ _ [box b13 3 [.int .i64 (-B)], Desk d (.slice tad b.nt tcp) hv wv b.hand, box b10 116 [.pointer (some ⟨d, 0, none⟩)], box b6 3 [.int .i64 t], box b5 31 (trayL left), box b4 26 [.slice tad b.nt tcp, hv]]
        refine en_keep [box b13 3 [.int .i64 (-B)], box b10 116 [.pointer (some ⟨d, 0, none⟩)], box b4 26 [.slice tad b.nt tcp, hv], box b6 3 [.int .i64 t], Desk d (.slice tad b.nt tcp) hv wv b.hand] ?_
        refine en_nil <| en_then <| en_block <| ?_
        obtain ⟨tb, toff, rfl, tcells⟩ := tp1 (by omega)
        obtain ⟨wf, wcap, rfl, hwc⟩ := hW
        refine en_range (fun j _ Γ' => Γ' = [box b13 3 [.int .i64 (sumL ((setL s).take j) (keptD left (b.tray t)) - B)], box b10 116 [.pointer (some ⟨d, 0, none⟩)], box b4 26 [.slice (some ⟨tb, toff, none⟩) b.nt tcp, hv], box b6 3 [.int .i64 t], Desk d (.slice (some ⟨tb, toff, none⟩) b.nt tcp) hv (.func (.func wf) #[] wcap) b.hand]) (fun _ _ _ => False) rfl rfl hit (by simp [sumL]) (fun l r Ψ i v h' Γ' hi hs hJ => ?_) (fun h' Γ' hs hJ => ?_) (fun c h' Γ' hs hX => ?_)
        · skip
          obtain rfl := hJ
          obtain ⟨m, rfl, hm', hm5⟩ := setV_get hi
          have hstep := sumL_take (keptD left (b.tray t)) hm'
          have hsb := sumL_bound (l := (setL s).take i) (f := keptD left (b.tray t)) fun x hx => kept_w hk hl htn x (setL_mem (List.mem_of_mem_take hx))
          have hlen := setL_len s
          have hlen2 : ((setL s).take i).length ≤ 5 := by rw [List.length_take]; omega
          have htm := kept_w hk hl htn m hm5
          have hrow : CellsH h' tb (toff + t * 5) (row 5 (icell b.tray t)) := (tcells.row htn).mono (hs1.trans (hs2.trans (hs3.trans hs)))
          have cW := hwc h' (hs2.trans (hs3.trans hs)) (b.tray t) m hm5 (fun j hj => hk.tr t j htn hj)
          have e9 : sumL ((setL s).take i) (keptD left (b.tray t)) - B + keptD left (b.tray t) m = sumL ((setL s).take (i + 1)) (keptD left (b.tray t)) - B := by omega
          refine en_region <| en_det (opT_assign rfl) rfl <| en_nil <| en_begin <| en_block <| en_draw0 [0, 1, 2, 3, 4, 5, 6, 7, 8, 9, 10, 11, 12, 13] (by kernel_rfl) (by decide +kernel) (by decide +kernel) (by decide) <| dp_q rfl (opT_load_own rfl rfl) rfl rfl rfl <| dp_q rfl (opT_load_own rfl rfl) rfl rfl rfl <| dp_p rfl (fun _ _ => opT_nilCheck_p rfl) rfl rfl rfl <| dp_p rfl (fun _ _ => opT_fieldAddr rfl) rfl rfl rfl <| ?_
          first | refine dp_q rfl (opT_desk0 rfl) rfl rfl rfl ?_ | refine dp_q rfl (opT_desk1 rfl) rfl rfl rfl ?_ | refine dp_q rfl (opT_desk3 rfl) rfl rfl rfl ?_ | refine dp_q rfl (opT_load_h rfl (by assumption)) rfl rfl rfl ?_ | refine dp_q rfl (opT_load_own rfl rfl) rfl rfl rfl ?_
          refine dp_p rfl (fun _ _ => opT_fieldAddr rfl) rfl rfl rfl <| dp_q rfl (opT_load_own rfl rfl) rfl rfl rfl <| dp_q rfl (opT_load_own rfl rfl) rfl rfl rfl <| ?_
          first | refine dp_p rfl (fun _ _ => opT_idx1 rfl rfl (by omega) (by omega)) rfl rfl rfl ?_ | refine dp_p rfl (fun _ _ => opT_idx (ks := 0) rfl rfl (by omega) (by omega)) rfl rfl rfl ?_
          first | refine dp_q rfl (opT_loadA_h rfl (by assumption) (by rfl)) rfl rfl rfl ?_ | refine dp_q rfl (opT_loadW_own rfl rfl) rfl rfl rfl ?_ | refine dp_q rfl (opT_loadA_own rfl) rfl rfl rfl ?_
          refine dp_p rfl (fun _ _ => opT_move rfl) rfl rfl rfl <| dp_ed0 rfl (opT_callw (cW) rfl rfl rfl) rfl rfl rfl rfl <| dp_p rfl (fun _ _ => opT_add rfl rfl (by constructor <;> omega)) rfl rfl rfl <| dp_td0 rfl (opT_store1 rfl rfl rfl) rfl rfl rfl rfl rfl <| dp_done0 <| en_blk <| ?_
          rw [e9]
          exact en_rq_n (.refl _) rfl
        · skip
          obtain rfl := hJ
          have e9 : (setL s).take (setV s).length = setL s := by simp [setV]
          rw [e9]
          generalize sumL (setL s) (keptD left (b.tray t)) - B = N
          skip
          by_cases hN : N < 1
          · rw [if_pos hN]
            refine en_blk <| en_then <| en_seq <| en_seq <| en_region <| en_det (opT_load_own rfl rfl) rfl <| en_det (opT_lss_t rfl rfl (by omega)) rfl <| en_nil <| en_then <| en_cond_t rfl <| en_seq <| en_region <| en_det (opT_assign rfl) rfl <| en_det (opT_assign rfl) rfl <| en_nil <| en_then <| en_ret <| en_then_ret <| ?_
            refine en_return (rs := [.tmp 8, .tmp 9]) rfl (.cons (.tmp rfl) (.cons (.tmp rfl) .nil)) (hs1.trans (hs2.trans (hs3.trans hs))) (Γ1 := []) ⟨rfl, rfl⟩
          · rw [if_neg hN]
            refine en_blk <| en_then <| en_seq <| en_seq <| en_region <| en_det (opT_load_own rfl rfl) rfl <| en_det (opT_lss_f rfl rfl (by omega)) rfl <| en_nil <| en_then <| en_cond_f rfl <| en_skip <| en_then <| en_seq <| en_region <| en_det (opT_load_own rfl rfl) rfl <| en_det (opT_assign rfl) rfl <| en_det (opT_assign rfl) rfl <| en_nil <| en_then <| en_ret <| ?_
            refine en_return (rs := [.tmp 8, .tmp 9]) rfl (.cons (.tmp rfl) (.cons (.tmp rfl) .nil)) (hs1.trans (hs2.trans (hs3.trans hs))) (Γ1 := []) ⟨rfl, rfl⟩
        · exact hX.elim
      · have e1 : upE b left t l = chosenE l := by simp [upE, hz, hi0, hc]
        rw [e1, if_neg hc]
        rw [if_neg hc] at cC
        refine en_det (opT_move rfl) rfl <| en_det (opT_extract rfl rfl) rfl <| en_det (opT_extract rfl rfl) rfl <| en_alloc rfl fun b10 => ?_
        refine en_det0 (opT_store1 rfl rfl rfl) <| en_det (opT_assign rfl) rfl <| en_nil <| en_then <| en_seq <| en_block <| en_seq <| en_region <| en_det (opT_move rfl) rfl <| en_det (opT_neq_f rfl rfl (by omega)) rfl <| en_det (opT_assign rfl) rfl <| en_nil <| en_then <| en_cond_f rfl <| en_seq <| en_region <| en_det (opT_load_own rfl rfl) rfl <| en_det (opT_fieldAddr rfl) rfl <| en_det (opT_load_own rfl rfl) rfl <| en_det (opT_len rfl) rfl <| en_det (opT_sub rfl rfl (by constructor <;> omega)) rfl <| en_calld (cI) rfl rfl rfl rfl <| ?_
        first | refine en_det (opT_not_t rfl) rfl ?_ | refine en_det (opT_not_f rfl) rfl ?_ | refine en_det (opT_not rfl) rfl ?_
        refine en_det (opT_assign rfl) rfl <| en_nil <| en_then <| en_cond_f rfl <| en_skip <| en_blk <| en_then <| en_seq <| en_region <| en_det (opT_move rfl) rfl <| en_calld (cC) rfl rfl rfl rfl <| en_det (opT_move rfl) rfl <| en_det (opT_extract rfl rfl) rfl <| en_det (opT_extract rfl rfl) rfl <| en_det (opT_assign rfl) rfl <| en_det (opT_assign rfl) rfl <| en_nil <| en_then <| en_seq <| en_seq <| en_region <| en_det (opT_move rfl) rfl <| en_det (opT_neq_t rfl rfl (by omega)) rfl <| en_nil <| en_then <| en_cond_t rfl <| en_seq <| en_region <| en_det (opT_move rfl) rfl <| en_det (opT_assign rfl) rfl <| en_det (opT_assign rfl) rfl <| en_nil <| en_then <| en_ret <| en_then_ret <| ?_
        refine en_return (rs := [.tmp 8, .tmp 9]) rfl (.cons (.tmp rfl) (.cons (.tmp rfl) .nil)) hs1 (Γ1 := []) ⟨rfl, rfl⟩
  · refine en_norm ?_
    have e1 : upE b left tray l = keptE b left := by simp [upE, hz]
    rw [e1, if_neg hz]
    refine en_det (opT_move rfl) rfl <| en_det (opT_extract rfl rfl) rfl <| en_det (opT_extract rfl rfl) rfl <| en_alloc rfl fun b10 => ?_
    refine en_det0 (opT_store1 rfl rfl rfl) <| en_det (opT_assign rfl) rfl <| en_nil <| en_then <| en_seq <| en_block <| en_seq <| en_region <| en_det (opT_move rfl) rfl <| en_det (opT_neq_t rfl rfl (by omega)) rfl <| en_det (opT_assign rfl) rfl <| en_nil <| en_then <| en_cond_t rfl <| en_seq <| en_region <| en_det (opT_move rfl) rfl <| en_det (opT_assign rfl) rfl <| en_det (opT_assign rfl) rfl <| en_nil <| en_then <| en_ret <| en_blk_ret <| en_then_ret <| ?_
    refine en_return (rs := [.tmp 8, .tmp 9]) rfl (.cons (.tmp rfl) (.cons (.tmp rfl) .nil)) hs1 (Γ1 := []) ⟨rfl, rfl⟩
end Go.Sx

/- Lists compared. -/
namespace Go.Sx
open Go.Proofs
set_option maxRecDepth 100000
def cmp1 (x y : Int) : Int := if x < y then -1 else if y < x then 1 else 0
def cmpD : List Int → List Int → Int
  | [], [] => 0
  | [], _ :: _ => -1
  | _ :: _, [] => 1
  | x :: xs, y :: ys => if cmp1 x y ≠ 0 then cmp1 x y else cmpD xs ys
attribute [local irreducible] Code.wpIn wpListIn Exit.then Exit.inBlock BQ Again Hd St En OpT box blk RQ BQ0 fmap own Desk

theorem isNaN_ct (h : Heap) (x : Int) : CT Try.prog 104 [.int .i64 x] h [] (DetW (.bool false) []) := by
  refine ct_intro Try.func104 rfl rfl rfl rfl fun Φ => ?_
  refine en_seq <| en_region <| en_det (opT_assign rfl) rfl <| en_nil <| en_then <| en_seq <| en_region <| en_det (opT_move rfl) rfl <| en_det (opT_move rfl) rfl <| en_det (opT_neq_f rfl rfl (by omega)) rfl <| en_det (opT_assign rfl) rfl <| en_nil <| en_then <| en_ret <| ?_
  refine en_return (rs := [.tmp 2]) rfl (.cons (.tmp rfl) .nil) (.refl _) ⟨rfl, rfl⟩
theorem cmp71_ct (h : Heap) (x y : Int) : CT Try.prog 71 [.int .i64 x, .int .i64 y] h [] (DetW (.int .i64 (cmp1 x y)) []) := by
  refine ct_intro Try.func71 rfl rfl rfl rfl fun Φ => ?_
  skip
  by_cases h1 : x < y
  · refine en_seq <| en_region <| en_det (opT_assign rfl) rfl <| en_nil <| en_then <| en_seq <| en_region <| en_det (opT_move rfl) rfl <| en_calld (isNaN_ct h x) rfl rfl rfl rfl <| en_det (opT_assign rfl) rfl <| en_nil <| en_then <| en_seq <| en_region <| en_det (opT_move rfl) rfl <| en_calld (isNaN_ct h y) rfl rfl rfl rfl <| en_det (opT_assign rfl) rfl <| en_nil <| en_then <| en_seq <| en_seq <| en_region <| en_det (opT_move rfl) rfl <| en_nil <| en_then <| en_cond_f rfl <| en_skip <| en_then <| en_seq <| en_seq <| en_region <| en_det (opT_move rfl) rfl <| en_nil <| en_then <| en_cond_f rfl <| en_skip <| en_then <| en_seq <| en_seq <| en_region <| en_det (opT_move rfl) rfl <| en_det (opT_move rfl) rfl <| en_det (opT_lss_t rfl rfl (by omega)) rfl <| en_nil <| en_then <| en_cond_t rfl <| en_seq <| en_region <| en_det (opT_assign rfl) rfl <| en_nil <| en_then <| en_ret <| en_then_ret <| ?_
    refine en_return (rs := [.tmp 4]) rfl (.cons (.tmp rfl) .nil) (.refl _) ⟨by simp [cmp1, h1, resVal], rfl⟩
  · by_cases h2 : y < x
    · skip
      refine en_seq <| en_region <| en_det (opT_assign rfl) rfl <| en_nil <| en_then <| en_seq <| en_region <| en_det (opT_move rfl) rfl <| en_calld (isNaN_ct h x) rfl rfl rfl rfl <| en_det (opT_assign rfl) rfl <| en_nil <| en_then <| en_seq <| en_region <| en_det (opT_move rfl) rfl <| en_calld (isNaN_ct h y) rfl rfl rfl rfl <| en_det (opT_assign rfl) rfl <| en_nil <| en_then <| en_seq <| en_seq <| en_region <| en_det (opT_move rfl) rfl <| en_nil <| en_then <| en_cond_f rfl <| en_skip <| en_then <| en_seq <| en_seq <| en_region <| en_det (opT_move rfl) rfl <| en_nil <| en_then <| en_cond_f rfl <| en_skip <| en_then <| en_seq <| en_seq <| en_region <| en_det (opT_move rfl) rfl <| en_det (opT_move rfl) rfl <| en_det (opT_lss_f rfl rfl (by omega)) rfl <| en_nil <| en_then <| en_cond_f rfl <| en_skip <| en_then <| en_seq <| en_seq <| en_region <| en_det (opT_move rfl) rfl <| en_det (opT_move rfl) rfl <| en_det (opT_gtr_t rfl rfl (by omega)) rfl <| en_nil <| en_then <| en_cond_t rfl <| en_seq <| en_region <| en_det (opT_assign rfl) rfl <| en_nil <| en_then <| en_ret <| en_then_ret <| ?_
      refine en_return (rs := [.tmp 4]) rfl (.cons (.tmp rfl) .nil) (.refl _) ⟨by simp [cmp1, h1, h2, resVal], rfl⟩
    · skip
      refine en_seq <| en_region <| en_det (opT_assign rfl) rfl <| en_nil <| en_then <| en_seq <| en_region <| en_det (opT_move rfl) rfl <| en_calld (isNaN_ct h x) rfl rfl rfl rfl <| en_det (opT_assign rfl) rfl <| en_nil <| en_then <| en_seq <| en_region <| en_det (opT_move rfl) rfl <| en_calld (isNaN_ct h y) rfl rfl rfl rfl <| en_det (opT_assign rfl) rfl <| en_nil <| en_then <| en_seq <| en_seq <| en_region <| en_det (opT_move rfl) rfl <| en_nil <| en_then <| en_cond_f rfl <| en_skip <| en_then <| en_seq <| en_seq <| en_region <| en_det (opT_move rfl) rfl <| en_nil <| en_then <| en_cond_f rfl <| en_skip <| en_then <| en_seq <| en_seq <| en_region <| en_det (opT_move rfl) rfl <| en_det (opT_move rfl) rfl <| en_det (opT_lss_f rfl rfl (by omega)) rfl <| en_nil <| en_then <| en_cond_f rfl <| en_skip <| en_then <| en_seq <| en_seq <| en_region <| en_det (opT_move rfl) rfl <| en_det (opT_move rfl) rfl <| en_det (opT_gtr_f rfl rfl (by omega)) rfl <| en_nil <| en_then <| en_cond_f rfl <| en_skip <| en_then <| en_seq <| en_region <| en_det (opT_assign rfl) rfl <| en_nil <| en_then <| en_ret <| ?_
      refine en_return (rs := [.tmp 4]) rfl (.cons (.tmp rfl) .nil) (.refl _) ⟨by simp [cmp1, h1, h2, resVal], rfl⟩
theorem compare_ct (h : Heap) (v u : Value) (l r : List Int) (hv : IsInts h v l) (hu : IsInts h u r) : CT Try.prog 19 [v, u] h [] (DetW (.int .i64 (cmpD l r)) []) := by
  obtain ⟨ad, cp, rfl, hl, hc, hp⟩ := hv.shape
  obtain ⟨ad', cp', rfl, hl', hc', hp'⟩ := hu.shape
  refine ct_intro Try.func19 rfl rfl rfl rfl fun Φ => ?_
  refine en_seq <| en_region <| en_det (opT_assign rfl) rfl <| en_nil <| en_then <| en_seq <| en_seq <| en_region <| en_det (opT_move rfl) rfl <| en_det (opT_len rfl) rfl <| en_det (opT_move rfl) rfl <| en_nil <| en_then <| en_block <| ?_
  refine en_loop (fun k => k ≤ l.length ∧ k ≤ r.length ∧ cmpD l r = cmpD (l.drop k) (r.drop k)) (fun k : Nat => [(0, .slice ad l.length cp), (1, .slice ad' r.length cp'), (9, .slice ad l.length cp), (10, .int .i64 l.length), (11, .int .i64 k)]) (fun _ => h) (fun _ => []) (fun k => l.length - k) 0 ⟨by omega, by omega, rfl⟩ ⟨rfl, rfl, rfl, rfl, rfl, trivial⟩ (.refl _) inferInstance fun k ⟨hk, hk', heq⟩ => ?_
  refine en_seq <| en_region <| ?_
  first | refine en_det (opT_lss_t rfl rfl (by omega)) rfl ?_ | refine en_det (opT_lss_f rfl rfl (by omega)) rfl ?_ | refine en_det (opT_lss rfl rfl) rfl ?_
  refine en_nil <| en_then <| en_seq <| ?_
  refine en_if rfl (fun hlt => ?_) (fun hlt => ?_)
  · skip
    have hkl : k < l.length := by omega
    obtain ⟨b, off, rfl, hcc⟩ := hp (by omega)
    have hck := hcc k hkl
    have hd : l.drop k = l[k] :: l.drop (k + 1) := List.drop_eq_getElem_cons hkl
    rw [hd] at heq
    skip
    by_cases hkr : k < r.length
    · obtain ⟨b', off', rfl, hcc'⟩ := hp' (by omega)
      have hck' := hcc' k hkr
      have hd' : r.drop k = r[k] :: r.drop (k + 1) := List.drop_eq_getElem_cons hkr
      rw [hd'] at heq
      simp only [cmpD] at heq
      have cC := cmp71_ct h l[k] r[k]
      by_cases hz : cmp1 l[k] r[k] = 0
      · rw [hz] at cC
        rw [if_neg (by simp [hz])] at heq
        refine en_skip <| en_then <| en_seq <| en_block <| en_seq <| en_region <| en_det (opT_move rfl) rfl <| ?_
        first | refine en_det (opT_idx1 rfl rfl (by omega) (by omega)) rfl ?_ | refine en_det (opT_idx (ks := 0) rfl rfl (by omega) (by omega)) rfl ?_
        first | refine en_det (opT_load_h rfl (by assumption)) rfl ?_ | refine en_det (opT_load_own rfl rfl) rfl ?_
        refine en_det (opT_assign rfl) rfl <| en_det (opT_assign rfl) rfl <| en_nil <| en_then <| en_seq <| en_seq <| en_region <| en_det (opT_move rfl) rfl <| en_det (opT_move rfl) rfl <| en_det (opT_len rfl) rfl <| en_det (opT_geq_f rfl rfl (by omega)) rfl <| en_nil <| en_then <| en_cond_f rfl <| en_skip <| en_then <| en_seq <| en_region <| en_det (opT_move rfl) rfl <| en_det (opT_move rfl) rfl <| ?_
        first | refine en_det (opT_idx1 rfl rfl (by omega) (by omega)) rfl ?_ | refine en_det (opT_idx (ks := 0) rfl rfl (by omega) (by omega)) rfl ?_
        first | refine en_det (opT_load_h rfl (by assumption)) rfl ?_ | refine en_det (opT_load_own rfl rfl) rfl ?_
        refine en_det (opT_assign rfl) rfl <| en_nil <| en_then <| en_seq <| en_region <| en_det (opT_move rfl) rfl <| en_det (opT_move rfl) rfl <| en_calld (cC) rfl rfl rfl rfl <| en_det (opT_assign rfl) rfl <| en_nil <| en_then <| en_seq <| en_region <| en_det (opT_move rfl) rfl <| en_det (opT_neq_f rfl rfl (by omega)) rfl <| en_nil <| en_then <| en_cond_f rfl <| en_skip <| en_blk <| en_then <| en_region <| en_det (opT_add rfl rfl (by constructor <;> omega)) rfl <| en_det (opT_move rfl) rfl <| en_nil <| en_then <| ?_
        exact en_again (k + 1) ⟨by omega, by omega, heq⟩ (by omega) ⟨rfl, rfl, rfl, rfl, gi rfl (by simp), trivial⟩ (.refl _) inferInstance
      · rw [if_pos hz] at heq
        refine en_skip <| en_then <| en_seq <| en_block <| en_seq <| en_region <| en_det (opT_move rfl) rfl <| ?_
        first | refine en_det (opT_idx1 rfl rfl (by omega) (by omega)) rfl ?_ | refine en_det (opT_idx (ks := 0) rfl rfl (by omega) (by omega)) rfl ?_
        first | refine en_det (opT_load_h rfl (by assumption)) rfl ?_ | refine en_det (opT_load_own rfl rfl) rfl ?_
        refine en_det (opT_assign rfl) rfl <| en_det (opT_assign rfl) rfl <| en_nil <| en_then <| en_seq <| en_seq <| en_region <| en_det (opT_move rfl) rfl <| en_det (opT_move rfl) rfl <| en_det (opT_len rfl) rfl <| en_det (opT_geq_f rfl rfl (by omega)) rfl <| en_nil <| en_then <| en_cond_f rfl <| en_skip <| en_then <| en_seq <| en_region <| en_det (opT_move rfl) rfl <| en_det (opT_move rfl) rfl <| ?_
        first | refine en_det (opT_idx1 rfl rfl (by omega) (by omega)) rfl ?_ | refine en_det (opT_idx (ks := 0) rfl rfl (by omega) (by omega)) rfl ?_
        first | refine en_det (opT_load_h rfl (by assumption)) rfl ?_ | refine en_det (opT_load_own rfl rfl) rfl ?_
        refine en_det (opT_assign rfl) rfl <| en_nil <| en_then <| en_seq <| en_region <| en_det (opT_move rfl) rfl <| en_det (opT_move rfl) rfl <| en_calld (cC) rfl rfl rfl rfl <| en_det (opT_assign rfl) rfl <| en_nil <| en_then <| en_seq <| en_region <| en_det (opT_move rfl) rfl <| en_det (opT_neq_t rfl rfl (by omega)) rfl <| en_nil <| en_then <| en_cond_t rfl <| en_seq <| en_region <| en_det (opT_move rfl) rfl <| en_det (opT_assign rfl) rfl <| en_nil <| en_then <| en_ret <| en_blk_ret <| en_then_ret <| en_then_ret <| en_blk_ret <| en_then_ret <| ?_
        refine en_return (rs := [.tmp 4]) rfl (.cons (.tmp rfl) .nil) (.refl _) ⟨by rw [heq]; rfl, rfl⟩
    · have hd' : r.drop k = [] := by simp; omega
      rw [hd'] at heq
      simp only [cmpD] at heq
      refine en_skip <| en_then <| en_seq <| en_block <| en_seq <| en_region <| en_det (opT_move rfl) rfl <| ?_
      first | refine en_det (opT_idx1 rfl rfl (by omega) (by omega)) rfl ?_ | refine en_det (opT_idx (ks := 0) rfl rfl (by omega) (by omega)) rfl ?_
      first | refine en_det (opT_load_h rfl (by assumption)) rfl ?_ | refine en_det (opT_load_own rfl rfl) rfl ?_
      refine en_det (opT_assign rfl) rfl <| en_det (opT_assign rfl) rfl <| en_nil <| en_then <| en_seq <| en_seq <| en_region <| en_det (opT_move rfl) rfl <| en_det (opT_move rfl) rfl <| en_det (opT_len rfl) rfl <| en_det (opT_geq_t rfl rfl (by omega)) rfl <| en_nil <| en_then <| en_cond_t rfl <| en_seq <| en_region <| en_det (opT_assign rfl) rfl <| en_nil <| en_then <| en_ret <| en_then_ret <| en_blk_ret <| en_then_ret <| en_then_ret <| en_blk_ret <| en_then_ret <| ?_
      refine en_return (rs := [.tmp 4]) rfl (.cons (.tmp rfl) .nil) (.refl _) ⟨by rw [heq]; rfl, rfl⟩
  · skip
    obtain rfl : k = l.length := by omega
    rw [List.drop_length] at heq
    skip
    by_cases hr : l.length < r.length
    · have hd' : r.drop l.length = r[l.length] :: r.drop (l.length + 1) := List.drop_eq_getElem_cons hr
      rw [hd'] at heq
      simp only [cmpD] at heq
      refine en_exit <| en_then_exit <| en_then_exit <| en_blk_hit <| en_then <| en_seq <| en_seq <| en_region <| en_det (opT_move rfl) rfl <| en_det (opT_len rfl) rfl <| en_det (opT_move rfl) rfl <| en_det (opT_len rfl) rfl <| en_det (opT_lss_t rfl rfl (by omega)) rfl <| en_nil <| en_then <| en_cond_t rfl <| en_seq <| en_region <| en_det (opT_assign rfl) rfl <| en_nil <| en_then <| en_ret <| en_then_ret <| ?_
      refine en_return (rs := [.tmp 4]) rfl (.cons (.tmp rfl) .nil) (.refl _) ⟨by rw [heq]; rfl, rfl⟩
    · have hd' : r.drop l.length = [] := by simp; omega
      rw [hd'] at heq
      simp only [cmpD] at heq
      refine en_exit <| en_then_exit <| en_then_exit <| en_blk_hit <| en_then <| en_seq <| en_seq <| en_region <| en_det (opT_move rfl) rfl <| en_det (opT_len rfl) rfl <| en_det (opT_move rfl) rfl <| en_det (opT_len rfl) rfl <| en_det (opT_lss_f rfl rfl (by omega)) rfl <| en_nil <| en_then <| en_cond_f rfl <| en_skip <| en_then <| en_seq <| en_region <| en_det (opT_assign rfl) rfl <| en_nil <| en_then <| en_ret <| ?_
      refine en_return (rs := [.tmp 4]) rfl (.cons (.tmp rfl) .nil) (.refl _) ⟨by rw [heq]; rfl, rfl⟩
end Go.Sx

/- The fewest hands that keep all trays clean. -/
namespace Go.Sx
open Go.Proofs
set_option maxRecDepth 100000
def bitsN (n k : Nat) : List Nat := (List.range k).filter fun i => n.testBit i
theorem bitsN_succ (n k : Nat) : bitsN n (k + 1) = bitsN n k ++ if n.testBit k = true then [k] else [] := by
  unfold bitsN
  rw [List.range_succ, List.filter_append]
  cases h : n.testBit k <;> simp [h]
theorem bitsN_len (n k : Nat) : (bitsN n k).length ≤ k := Nat.le_trans (List.length_filter_le _ _) (by simp)
theorem bitsN_lt {n k x : Nat} (h : x ∈ bitsN n k) : x < k := by simp only [bitsN, List.mem_filter, List.mem_range] at h; exact h.1
def candB (best : List Nat) (found : Bool) (l : List Nat) : Bool := !found || decide (l.length < best.length) || (decide (l.length = best.length) && decide (cmpD (natsI l) (natsI best) < 0))
def stepF (b : BeltD) (left : Nat → Int) (s : List Nat × Bool) (n : Nat) : List Nat × Bool := if (candB s.1 s.2 (bitsN n b.nh) && cleanB b (keptD left) (bitsN n b.nh)) = true then (bitsN n b.nh, true) else s
def fewF (b : BeltD) (left : Nat → Int) (k : Nat) : List Nat × Bool := (List.range k).foldl (stepF b left) ([], false)
theorem fewF_succ (b : BeltD) (left : Nat → Int) (k : Nat) : fewF b left (k + 1) = stepF b left (fewF b left k) k := by
  simp [fewF, List.range_succ, List.foldl_append]
def fewB (b : BeltD) (left : Nat → Int) : List Nat × Bool := fewF b left (2 ^ b.nh)
theorem shl_pow : ∀ n : Fin 6, IntKind.i64.wrap (1 * 2 ^ (min ((n : Nat) : Int).toNat IntKind.i64.bits)) = ((2 ^ (n : Nat) : Nat) : Int) ∧ 2 ^ (n : Nat) ≤ 32 := by decide +kernel
def FewR (b : BeltD) (left : Nat → Int) (v : Value) (h' : Heap) (Γ' : List HP) : Prop :=
  Γ' = [] ∧ ((keptE b left = 0 ∧ (fewB b left).2 = false ∧ v = .tuple #[nilS, .int .i64 1]) ∨ (keptE b left = 0 ∧ (fewB b left).2 = true ∧ ∃ sv, v = .tuple #[sv, .int .i64 0] ∧ IsInts h' sv (natsI (fewB b left).1)) ∨ (keptE b left ≠ 0 ∧ v = .tuple #[nilS, .int .i64 (keptE b left)]))
attribute [local irreducible] Code.wpIn wpListIn Exit.then Exit.inBlock BQ Again Hd St En OpT box blk RQ BQ0 fmap own Desk

theorem fewest_ct (h : Heap) (tv hv : Value) (b : BeltD) (left : Nat → Int) (hb : IsBelt h (.agg #[tv, hv]) b) : CT Try.prog 15 [.agg #[tv, hv], .agg (trayL left).toArray] h [] (FewR b left) := by
  have cA := kept_ct h tv hv b left hb
  obtain ⟨hT, hH⟩ := belt_parts hb
  obtain ⟨rv, ⟨_, had, hcp, rfl, hm1, hc1, hp1⟩, hr⟩ := hH
  refine ct_intro Try.func15 rfl rfl rfl rfl fun Φ => ?_
  refine en_seq <| en_region <| en_box rfl rfl rfl fun b2 => en_box rfl rfl rfl fun b3 => en_det (opT_assign rfl) rfl <| en_det (opT_assign rfl) rfl <| en_nil <| en_then <| en_seq <| en_region <| ?_
  first | refine en_det (opT_loadW_own rfl rfl) rfl ?_ | refine en_det (opT_loadA_own rfl) rfl ?_
  first | refine en_det (opT_loadW_own rfl rfl) rfl ?_ | refine en_det (opT_loadA_own rfl) rfl ?_
  refine en_call cA rfl rfl rfl rfl fun v h1 Γ' hs1 hv' => ?_
  skip
  rcases hv' with ⟨hz, d, wv, rfl, hW, rfl⟩ | ⟨hz, rfl, rfl⟩
  · refine en_norm ?_
    have hk := check_ok.1 (kept_zero hz).1
    have hl : LeftOK left := piecesD_iff.1 (kept_zero hz).2
    have h5 := hk.h5
    have hpow := shl_pow ⟨b.nh, by omega⟩
    simp only at hpow
    refine en_keep [box b2 26 [tv, .slice had b.nh hcp], Desk d tv (.slice had b.nh hcp) wv b.hand] ?_
    refine en_det (opT_move rfl) rfl <| en_det (opT_extract rfl rfl) rfl <| en_det (opT_extract rfl rfl) rfl <| en_det (opT_assign rfl) rfl <| en_det (opT_assign rfl) rfl <| en_nil <| en_then <| en_seq <| en_seq <| en_region <| en_det (opT_move rfl) rfl <| en_det (opT_neq_f rfl rfl (by omega)) rfl <| en_nil <| en_then <| en_cond_f rfl <| en_skip <| en_then <| en_seq <| en_region <| en_det (opT_move rfl) rfl <| en_det (opT_makeFunc rfl rfl) rfl <| en_det (opT_assign rfl) rfl <| en_nil <| en_then <| en_seq <| en_region <| en_det (opT_assign rfl) rfl <| en_nil <| en_then <| en_seq <| en_region <| en_det (opT_assign rfl) rfl <| en_nil <| en_then <| en_seq <| en_seq <| en_region <| en_det (opT_fieldAddr rfl) rfl <| en_det (opT_load_own rfl rfl) rfl <| en_det (opT_len rfl) rfl <| en_det ((hpow.1 ▸ opT_shl rfl rfl (by omega))) rfl <| en_det (opT_move rfl) rfl <| en_nil <| en_then <| en_block <| ?_
    refine en_loop (fun x : Nat × Value × Heap => x.1 ≤ 2 ^ b.nh ∧ h1.sub x.2.2 ∧ IsInts x.2.2 x.2.1 (natsI (fewF b left x.1).1)) (fun x => [(2, .pointer (some ⟨b2, 0, none⟩)), (8, .func (.func 69) #[.pointer (some ⟨d, 0, none⟩)] #[]), (9, x.2.1), (10, .bool (fewF b left x.1).2), (28, .int .i64 ((2 ^ b.nh : Nat) : Int)), (29, .int .i64 x.1)]) (fun x => x.2.2) (fun x => [box b2 26 [tv, .slice had b.nh hcp], Desk d tv (.slice had b.nh hcp) wv b.hand]) (fun x => 2 ^ b.nh - x.1) (0, nilS, h1) ⟨by simp, .refl _, SlH.nil _ _⟩ ⟨rfl, rfl, rfl, rfl, rfl, rfl, trivial⟩ (.refl _) (tkAll _) fun x hx => ?_
    obtain ⟨n, bv, h2⟩ := x
    obtain ⟨hn, hs2, hbest⟩ := hx
    simp only at hn hs2 hbest
    change En _ _ _ [(2, .pointer (some ⟨b2, 0, none⟩)), (8, .func (.func 69) #[.pointer (some ⟨d, 0, none⟩)] #[]), (9, bv), (10, .bool (fewF b left n).2), (28, .int .i64 ((2 ^ b.nh : Nat) : Int)), (29, .int .i64 n)] h2 [box b2 26 [tv, .slice had b.nh hcp], Desk d tv (.slice had b.nh hcp) wv b.hand]
    refine en_seq <| en_region <| ?_
    first | refine en_det (opT_lss_t rfl rfl (by omega)) rfl ?_ | refine en_det (opT_lss_f rfl rfl (by omega)) rfl ?_ | refine en_det (opT_lss rfl rfl) rfl ?_
    refine en_nil <| en_then <| en_seq <| ?_
    refine en_if rfl (fun hlt1 => ?_) (fun hlt1 => ?_)
    · skip
      have hnl : n < 2 ^ b.nh := by omega
      have hn32 : n < 32 := by omega
      have hsucc := fewF_succ b left n
      generalize fewF b left n = S at hbest hsucc ⊢
      obtain ⟨best, found⟩ := S
      simp only at hbest
      have hfe : ((best, found) : List Nat × Bool).2 = found := rfl
      rw [hfe]
      refine en_own_nil 3 1 ?_
      refine en_skip <| en_then <| en_seq <| en_block <| en_seq <| en_region <| en_det (opT_move rfl) rfl <| en_det (opT_assign rfl) rfl <| en_nil <| en_then <| en_seq <| en_region <| en_det (opT_assign rfl) rfl <| en_nil <| en_then <| en_seq <| en_seq <| en_region <| en_det (opT_fieldAddr rfl) rfl <| en_det (opT_load_own rfl rfl) rfl <| en_det (opT_len rfl) rfl <| en_det (opT_move rfl) rfl <| en_nil <| en_then <| en_block <| ?_
      refine en_loop (fun x : Nat × Value => x.1 ≤ b.nh) (fun x => [(2, .pointer (some ⟨b2, 0, none⟩)), (8, .func (.func 69) #[.pointer (some ⟨d, 0, none⟩)] #[]), (9, bv), (10, .bool found), (28, .int .i64 ((2 ^ b.nh : Nat) : Int)), (29, .int .i64 n), (11, .int .i64 n), (12, x.2), (34, .int .i64 b.nh), (35, .int .i64 x.1)]) (fun _ => h2) (fun x => [own 3 1 x.2 (bitsN n x.1).length ((natsI (bitsN n x.1)).map (Value.int .i64)), box b2 26 [tv, .slice had b.nh hcp], Desk d tv (.slice had b.nh hcp) wv b.hand]) (fun x => b.nh - x.1) (0, nilS) (by simp) ⟨rfl, rfl, rfl, rfl, rfl, rfl, rfl, rfl, rfl, rfl, trivial⟩ (.refl _) (tkAll _) fun x hk' => ?_
      obtain ⟨k, lv⟩ := x
      simp only at hk'
      change En _ _ _ [(2, .pointer (some ⟨b2, 0, none⟩)), (8, .func (.func 69) #[.pointer (some ⟨d, 0, none⟩)] #[]), (9, bv), (10, .bool found), (28, .int .i64 ((2 ^ b.nh : Nat) : Int)), (29, .int .i64 n), (11, .int .i64 n), (12, lv), (34, .int .i64 b.nh), (35, .int .i64 k)] h2 [own 3 1 lv (bitsN n k).length ((natsI (bitsN n k)).map (Value.int .i64)), box b2 26 [tv, .slice had b.nh hcp], Desk d tv (.slice had b.nh hcp) wv b.hand]
      refine en_seq <| en_region <| ?_
      first | refine en_det (opT_lss_t rfl rfl (by omega)) rfl ?_ | refine en_det (opT_lss_f rfl rfl (by omega)) rfl ?_ | refine en_det (opT_lss rfl rfl) rfl ?_
      refine en_nil <| en_then <| en_seq <| ?_
      refine en_if rfl (fun hlt2 => ?_) (fun hlt2 => ?_)
      · skip
        have hkl : k < b.nh := by omega
        have hbit := bit_of' hn32 (show k < 5 by omega)
        have hbs := bitsN_succ n k
        have hbl := bitsN_len n k
        skip
        cases htb : n.testBit k with
        | true =>
          rw [htb] at hbit hbs
          simp only [if_true] at hbit hbs
          refine en_skip <| en_then <| en_seq <| en_block <| en_seq <| en_region <| en_det (opT_move rfl) rfl <| en_det (opT_assign rfl) rfl <| en_nil <| en_then <| en_seq <| en_region <| en_det (opT_move rfl) rfl <| en_det (opT_move rfl) rfl <| en_det (opT_shr rfl rfl (by omega)) rfl <| en_det ((hbit ▸ opT_and rfl rfl)) rfl <| en_det (opT_eql_t rfl rfl (by omega)) rfl <| en_nil <| en_then <| en_cond_t rfl <| en_region <| en_det (opT_move rfl) rfl <| en_det (opT_move rfl) rfl <| ?_
          refine en_op (opT_buildSlice (cs := [.int .i64 k]) rfl rfl (by kernel_rfl)) rfl fun _ _ _ _ ⟨b45, e1, e2, e3⟩ => ?_
          subst e1 e3; replace e2 := e2.symm; subst e2
          refine en_app1 rfl rfl rfl rfl rfl rfl rfl (by omega) fun ad46 cp46 hm46 hc46 => ?_
          refine en_det (opT_assign rfl) rfl <| en_nil <| en_blk <| en_then <| en_region <| en_det (opT_add rfl rfl (by constructor <;> omega)) rfl <| en_det (opT_move rfl) rfl <| en_nil <| en_then <| ?_
          refine en_again (k + 1, .slice ad46 ((bitsN n k).length + 1) cp46) (by simp only; omega) (by simp only; omega) ⟨rfl, rfl, rfl, rfl, rfl, rfl, rfl, rfl, rfl, gi rfl (by simp), trivial⟩ (.refl _) (by
            simp only [hbs, natsI, List.map_append, List.map_cons, List.map_nil, List.length_append, List.length_cons, List.length_nil]; exact inferInstance)
        | false =>
          rw [htb] at hbit hbs
          simp only [Bool.false_eq_true, if_false, List.append_nil] at hbit hbs
          refine en_skip <| en_then <| en_seq <| en_block <| en_seq <| en_region <| en_det (opT_move rfl) rfl <| en_det (opT_assign rfl) rfl <| en_nil <| en_then <| en_seq <| en_region <| en_det (opT_move rfl) rfl <| en_det (opT_move rfl) rfl <| en_det (opT_shr rfl rfl (by omega)) rfl <| en_det ((hbit ▸ opT_and rfl rfl)) rfl <| en_det (opT_eql_f rfl rfl (by omega)) rfl <| en_nil <| en_then <| en_cond_f rfl <| en_skip <| en_blk <| en_then <| en_region <| en_det (opT_add rfl rfl (by constructor <;> omega)) rfl <| en_det (opT_move rfl) rfl <| en_nil <| en_then <| ?_
          refine en_again (k + 1, lv) (by simp only; omega) (by simp only; omega) ⟨rfl, rfl, rfl, rfl, rfl, rfl, rfl, rfl, rfl, gi rfl (by simp), trivial⟩ (.refl _) (by
            simp only [hbs]; exact inferInstance)
      · skip
        obtain rfl : k = b.nh := by omega
        refine en_freeze_own fun h3 hs3 hsl _ => ?_
        have hLlt : ∀ x ∈ bitsN n b.nh, x < b.nh := fun x hx => bitsN_lt hx
        have hLlen := bitsN_len n b.nh
        have hli : IsInts h3 lv (natsI (bitsN n b.nh)) := by simpa [IsInts, natsI] using hsl
        have hstep : fewF b left (n + 1) = if (candB best found (bitsN n b.nh) && cleanB b (keptD left) (bitsN n b.nh)) = true then (bitsN n b.nh, true) else (best, found) := hsucc
        have cC := clean69_ct h3 d tv (.slice had b.nh hcp) wv lv b (bitsN n b.nh) (keptD left) (hb.mono (hs1.trans (hs2.trans hs3))) hk hLlt (by omega) hli (hW.mono (hs2.trans hs3)) (fun t ht => kept_w hk hl ht)
        generalize cleanB b (keptD left) (bitsN n b.nh) = cl at hstep cC
        generalize bitsN n b.nh = L at hstep hli cC
        have yes : candB best found L = true → cl = true → fewF b left (n + 1) = (L, true) := fun a c => by rw [hstep, a, c]; rfl
        have no1 : candB best found L = false → fewF b left (n + 1) = (best, found) := fun a => by rw [hstep, a]; rfl
        have no2 : cl = false → fewF b left (n + 1) = (best, found) := fun a => by rw [hstep, a, Bool.and_false]; rfl
        have hb3 := hbest.mono hs3
        have cM := compare_ct h3 lv bv _ _ hli hb3
        obtain ⟨lad, lcp, rfl, _, _, _⟩ := hli.shape
        obtain ⟨bad, bcp, rfl, _, _, _⟩ := hb3.shape
        have l1 : (natsI L).length = L.length := by simp [natsI]
        have l2 : (natsI best).length = best.length := by simp [natsI]
        skip
        cases found with
        | false =>
          have hcand : candB best false L = true := by simp [candB]
          cases hcl : cl with
          | true =>
            have e := yes hcand hcl
            rw [hcl] at cC
            refine en_exit <| en_then_exit <| en_then_exit <| en_blk_hit <| en_then <| en_seq <| en_region <| en_det (opT_move rfl) rfl <| ?_
            first | refine en_det (opT_not_t rfl) rfl ?_ | refine en_det (opT_not_f rfl) rfl ?_ | refine en_det (opT_not rfl) rfl ?_
            refine en_det (opT_move rfl) rfl <| en_g_no rfl rfl rfl <| en_g_no rfl rfl rfl <| en_g_no rfl rfl rfl <| en_g_no rfl rfl rfl <| en_g_no rfl rfl rfl <| ?_
            first | refine en_det (opT_pick_t rfl rfl) rfl ?_ | refine en_det (opT_pick_f rfl rfl) rfl ?_
            refine en_det (opT_move rfl) rfl <| en_g_no rfl rfl rfl <| en_g_no rfl rfl rfl <| en_g_no rfl rfl rfl <| en_g_no rfl rfl rfl <| en_g_no rfl rfl rfl <| en_g_no rfl rfl rfl <| en_g_undef rfl rfl rfl <| en_g_undef rfl rfl rfl <| en_g_undef rfl rfl rfl <| en_g_undef rfl rfl rfl <| en_g_no rfl rfl rfl <| ?_
            first | refine en_det (opT_pick_t rfl rfl) rfl ?_ | refine en_det (opT_pick_f rfl rfl) rfl ?_
            refine en_det (opT_move rfl) rfl <| en_g_yes rfl rfl <| en_det (opT_move rfl) rfl <| en_g_yes rfl rfl <| en_det (opT_move rfl) rfl <| en_g_yes rfl rfl <| en_calld (cC) rfl rfl rfl rfl <| ?_
            first | refine en_det (opT_pick_t rfl rfl) rfl ?_ | refine en_det (opT_pick_f rfl rfl) rfl ?_
            refine en_nil <| en_then <| en_cond_t rfl <| en_region <| en_det (opT_move rfl) rfl <| en_det (opT_assign rfl) rfl <| en_det (opT_assign rfl) rfl <| en_nil <| en_blk <| en_then <| en_region <| en_det (opT_add rfl rfl (by constructor <;> omega)) rfl <| en_det (opT_move rfl) rfl <| en_nil <| en_then <| ?_
            exact en_again (n + 1, .slice lad (natsI L).length lcp, h3) ⟨by simp only; omega, hs2.trans hs3, by rw [e]; exact hli⟩ (by simp only; omega) ⟨rfl, rfl, rfl, gb rfl (by rw [e]), rfl, gi rfl (by simp), trivial⟩ (.refl _) (tkAll _)
          | false =>
            have e := no2 hcl
            rw [hcl] at cC
            refine en_exit <| en_then_exit <| en_then_exit <| en_blk_hit <| en_then <| en_seq <| en_region <| en_det (opT_move rfl) rfl <| ?_
            first | refine en_det (opT_not_t rfl) rfl ?_ | refine en_det (opT_not_f rfl) rfl ?_ | refine en_det (opT_not rfl) rfl ?_
            refine en_det (opT_move rfl) rfl <| en_g_no rfl rfl rfl <| en_g_no rfl rfl rfl <| en_g_no rfl rfl rfl <| en_g_no rfl rfl rfl <| en_g_no rfl rfl rfl <| ?_
            first | refine en_det (opT_pick_t rfl rfl) rfl ?_ | refine en_det (opT_pick_f rfl rfl) rfl ?_
            refine en_det (opT_move rfl) rfl <| en_g_no rfl rfl rfl <| en_g_no rfl rfl rfl <| en_g_no rfl rfl rfl <| en_g_no rfl rfl rfl <| en_g_no rfl rfl rfl <| en_g_no rfl rfl rfl <| en_g_undef rfl rfl rfl <| en_g_undef rfl rfl rfl <| en_g_undef rfl rfl rfl <| en_g_undef rfl rfl rfl <| en_g_no rfl rfl rfl <| ?_
            first | refine en_det (opT_pick_t rfl rfl) rfl ?_ | refine en_det (opT_pick_f rfl rfl) rfl ?_
            refine en_det (opT_move rfl) rfl <| en_g_yes rfl rfl <| en_det (opT_move rfl) rfl <| en_g_yes rfl rfl <| en_det (opT_move rfl) rfl <| en_g_yes rfl rfl <| en_calld (cC) rfl rfl rfl rfl <| ?_
            first | refine en_det (opT_pick_t rfl rfl) rfl ?_ | refine en_det (opT_pick_f rfl rfl) rfl ?_
            refine en_nil <| en_then <| en_cond_f rfl <| en_skip <| en_blk <| en_then <| en_region <| en_det (opT_add rfl rfl (by constructor <;> omega)) rfl <| en_det (opT_move rfl) rfl <| en_nil <| en_then <| ?_
            exact en_again (n + 1, .slice bad (natsI best).length bcp, h3) ⟨by simp only; omega, hs2.trans hs3, by rw [e]; exact hb3⟩ (by simp only; omega) ⟨rfl, rfl, rfl, gb rfl (by rw [e]), rfl, gi rfl (by simp), trivial⟩ (.refl _) (tkAll _)
        | true =>
          by_cases c1 : L.length < best.length
          · have hcand : candB best true L = true := by simp [candB, c1]
            cases hcl : cl with
            | true =>
              have e := yes hcand hcl
              rw [hcl] at cC
              refine en_exit <| en_then_exit <| en_then_exit <| en_blk_hit <| en_then <| en_seq <| en_region <| en_det (opT_move rfl) rfl <| ?_
              first | refine en_det (opT_not_t rfl) rfl ?_ | refine en_det (opT_not_f rfl) rfl ?_ | refine en_det (opT_not rfl) rfl ?_
              refine en_det (opT_move rfl) rfl <| en_g_yes rfl rfl <| en_det (opT_move rfl) rfl <| en_g_yes rfl rfl <| en_det (opT_len rfl) rfl <| en_g_yes rfl rfl <| en_det (opT_move rfl) rfl <| en_g_yes rfl rfl <| en_det (opT_len rfl) rfl <| en_g_yes rfl rfl <| en_det (opT_lss_t rfl rfl (by omega)) rfl <| ?_
              first | refine en_det (opT_pick_t rfl rfl) rfl ?_ | refine en_det (opT_pick_f rfl rfl) rfl ?_
              refine en_det (opT_move rfl) rfl <| en_g_no rfl rfl rfl <| en_g_no rfl rfl rfl <| en_g_no rfl rfl rfl <| en_g_no rfl rfl rfl <| en_g_no rfl rfl rfl <| en_g_no rfl rfl rfl <| en_g_undef rfl rfl rfl <| en_g_undef rfl rfl rfl <| en_g_undef rfl rfl rfl <| en_g_undef rfl rfl rfl <| en_g_no rfl rfl rfl <| ?_
              first | refine en_det (opT_pick_t rfl rfl) rfl ?_ | refine en_det (opT_pick_f rfl rfl) rfl ?_
              refine en_det (opT_move rfl) rfl <| en_g_yes rfl rfl <| en_det (opT_move rfl) rfl <| en_g_yes rfl rfl <| en_det (opT_move rfl) rfl <| en_g_yes rfl rfl <| en_calld (cC) rfl rfl rfl rfl <| ?_
              first | refine en_det (opT_pick_t rfl rfl) rfl ?_ | refine en_det (opT_pick_f rfl rfl) rfl ?_
              refine en_nil <| en_then <| en_cond_t rfl <| en_region <| en_det (opT_move rfl) rfl <| en_det (opT_assign rfl) rfl <| en_det (opT_assign rfl) rfl <| en_nil <| en_blk <| en_then <| en_region <| en_det (opT_add rfl rfl (by constructor <;> omega)) rfl <| en_det (opT_move rfl) rfl <| en_nil <| en_then <| ?_
              exact en_again (n + 1, .slice lad (natsI L).length lcp, h3) ⟨by simp only; omega, hs2.trans hs3, by rw [e]; exact hli⟩ (by simp only; omega) ⟨rfl, rfl, rfl, gb rfl (by rw [e]), rfl, gi rfl (by simp), trivial⟩ (.refl _) (tkAll _)
            | false =>
              have e := no2 hcl
              rw [hcl] at cC
              refine en_exit <| en_then_exit <| en_then_exit <| en_blk_hit <| en_then <| en_seq <| en_region <| en_det (opT_move rfl) rfl <| ?_
              first | refine en_det (opT_not_t rfl) rfl ?_ | refine en_det (opT_not_f rfl) rfl ?_ | refine en_det (opT_not rfl) rfl ?_
              refine en_det (opT_move rfl) rfl <| en_g_yes rfl rfl <| en_det (opT_move rfl) rfl <| en_g_yes rfl rfl <| en_det (opT_len rfl) rfl <| en_g_yes rfl rfl <| en_det (opT_move rfl) rfl <| en_g_yes rfl rfl <| en_det (opT_len rfl) rfl <| en_g_yes rfl rfl <| en_det (opT_lss_t rfl rfl (by omega)) rfl <| ?_
              first | refine en_det (opT_pick_t rfl rfl) rfl ?_ | refine en_det (opT_pick_f rfl rfl) rfl ?_
              refine en_det (opT_move rfl) rfl <| en_g_no rfl rfl rfl <| en_g_no rfl rfl rfl <| en_g_no rfl rfl rfl <| en_g_no rfl rfl rfl <| en_g_no rfl rfl rfl <| en_g_no rfl rfl rfl <| en_g_undef rfl rfl rfl <| en_g_undef rfl rfl rfl <| en_g_undef rfl rfl rfl <| en_g_undef rfl rfl rfl <| en_g_no rfl rfl rfl <| ?_
              first | refine en_det (opT_pick_t rfl rfl) rfl ?_ | refine en_det (opT_pick_f rfl rfl) rfl ?_
              refine en_det (opT_move rfl) rfl <| en_g_yes rfl rfl <| en_det (opT_move rfl) rfl <| en_g_yes rfl rfl <| en_det (opT_move rfl) rfl <| en_g_yes rfl rfl <| en_calld (cC) rfl rfl rfl rfl <| ?_
              first | refine en_det (opT_pick_t rfl rfl) rfl ?_ | refine en_det (opT_pick_f rfl rfl) rfl ?_
              refine en_nil <| en_then <| en_cond_f rfl <| en_skip <| en_blk <| en_then <| en_region <| en_det (opT_add rfl rfl (by constructor <;> omega)) rfl <| en_det (opT_move rfl) rfl <| en_nil <| en_then <| ?_
              exact en_again (n + 1, .slice bad (natsI best).length bcp, h3) ⟨by simp only; omega, hs2.trans hs3, by rw [e]; exact hb3⟩ (by simp only; omega) ⟨rfl, rfl, rfl, gb rfl (by rw [e]), rfl, gi rfl (by simp), trivial⟩ (.refl _) (tkAll _)
          · by_cases c2 : L.length = best.length
            · by_cases c3 : cmpD (natsI L) (natsI best) < 0
              · have hcand : candB best true L = true := by simp [candB, c2, c3]
                cases hcl : cl with
                | true =>
                  have e := yes hcand hcl
                  rw [hcl] at cC
                  refine en_exit <| en_then_exit <| en_then_exit <| en_blk_hit <| en_then <| en_seq <| en_region <| en_det (opT_move rfl) rfl <| ?_
                  first | refine en_det (opT_not_t rfl) rfl ?_ | refine en_det (opT_not_f rfl) rfl ?_ | refine en_det (opT_not rfl) rfl ?_
                  refine en_det (opT_move rfl) rfl <| en_g_yes rfl rfl <| en_det (opT_move rfl) rfl <| en_g_yes rfl rfl <| en_det (opT_len rfl) rfl <| en_g_yes rfl rfl <| en_det (opT_move rfl) rfl <| en_g_yes rfl rfl <| en_det (opT_len rfl) rfl <| en_g_yes rfl rfl <| en_det (opT_lss_f rfl rfl (by omega)) rfl <| ?_
                  first | refine en_det (opT_pick_t rfl rfl) rfl ?_ | refine en_det (opT_pick_f rfl rfl) rfl ?_
                  refine en_det (opT_move rfl) rfl <| en_g_yes rfl rfl <| en_det (opT_move rfl) rfl <| en_g_yes rfl rfl <| en_det (opT_len rfl) rfl <| en_g_yes rfl rfl <| en_det (opT_move rfl) rfl <| en_g_yes rfl rfl <| en_det (opT_len rfl) rfl <| en_g_yes rfl rfl <| en_det (opT_eql_t rfl rfl (by omega)) rfl <| en_g_yes rfl rfl <| en_det (opT_move rfl) rfl <| en_g_yes rfl rfl <| en_det (opT_move rfl) rfl <| en_g_yes rfl rfl <| en_det (opT_move rfl) rfl <| en_g_yes rfl rfl <| en_calld (cM) rfl rfl rfl rfl <| en_g_yes rfl rfl <| en_det (opT_lss_t rfl rfl (by omega)) rfl <| en_g_yes rfl rfl <| ?_
                  first | refine en_det (opT_pick_t rfl rfl) rfl ?_ | refine en_det (opT_pick_f rfl rfl) rfl ?_
                  first | refine en_det (opT_pick_t rfl rfl) rfl ?_ | refine en_det (opT_pick_f rfl rfl) rfl ?_
                  refine en_det (opT_move rfl) rfl <| en_g_yes rfl rfl <| en_det (opT_move rfl) rfl <| en_g_yes rfl rfl <| en_det (opT_move rfl) rfl <| en_g_yes rfl rfl <| en_calld (cC) rfl rfl rfl rfl <| ?_
                  first | refine en_det (opT_pick_t rfl rfl) rfl ?_ | refine en_det (opT_pick_f rfl rfl) rfl ?_
                  refine en_nil <| en_then <| en_cond_t rfl <| en_region <| en_det (opT_move rfl) rfl <| en_det (opT_assign rfl) rfl <| en_det (opT_assign rfl) rfl <| en_nil <| en_blk <| en_then <| en_region <| en_det (opT_add rfl rfl (by constructor <;> omega)) rfl <| en_det (opT_move rfl) rfl <| en_nil <| en_then <| ?_
                  exact en_again (n + 1, .slice lad (natsI L).length lcp, h3) ⟨by simp only; omega, hs2.trans hs3, by rw [e]; exact hli⟩ (by simp only; omega) ⟨rfl, rfl, rfl, gb rfl (by rw [e]), rfl, gi rfl (by simp), trivial⟩ (.refl _) (tkAll _)
                | false =>
                  have e := no2 hcl
                  rw [hcl] at cC
                  refine en_exit <| en_then_exit <| en_then_exit <| en_blk_hit <| en_then <| en_seq <| en_region <| en_det (opT_move rfl) rfl <| ?_
                  first | refine en_det (opT_not_t rfl) rfl ?_ | refine en_det (opT_not_f rfl) rfl ?_ | refine en_det (opT_not rfl) rfl ?_
                  refine en_det (opT_move rfl) rfl <| en_g_yes rfl rfl <| en_det (opT_move rfl) rfl <| en_g_yes rfl rfl <| en_det (opT_len rfl) rfl <| en_g_yes rfl rfl <| en_det (opT_move rfl) rfl <| en_g_yes rfl rfl <| en_det (opT_len rfl) rfl <| en_g_yes rfl rfl <| en_det (opT_lss_f rfl rfl (by omega)) rfl <| ?_
                  first | refine en_det (opT_pick_t rfl rfl) rfl ?_ | refine en_det (opT_pick_f rfl rfl) rfl ?_
                  refine en_det (opT_move rfl) rfl <| en_g_yes rfl rfl <| en_det (opT_move rfl) rfl <| en_g_yes rfl rfl <| en_det (opT_len rfl) rfl <| en_g_yes rfl rfl <| en_det (opT_move rfl) rfl <| en_g_yes rfl rfl <| en_det (opT_len rfl) rfl <| en_g_yes rfl rfl <| en_det (opT_eql_t rfl rfl (by omega)) rfl <| en_g_yes rfl rfl <| en_det (opT_move rfl) rfl <| en_g_yes rfl rfl <| en_det (opT_move rfl) rfl <| en_g_yes rfl rfl <| en_det (opT_move rfl) rfl <| en_g_yes rfl rfl <| en_calld (cM) rfl rfl rfl rfl <| en_g_yes rfl rfl <| en_det (opT_lss_t rfl rfl (by omega)) rfl <| en_g_yes rfl rfl <| ?_
                  first | refine en_det (opT_pick_t rfl rfl) rfl ?_ | refine en_det (opT_pick_f rfl rfl) rfl ?_
                  first | refine en_det (opT_pick_t rfl rfl) rfl ?_ | refine en_det (opT_pick_f rfl rfl) rfl ?_
                  refine en_det (opT_move rfl) rfl <| en_g_yes rfl rfl <| en_det (opT_move rfl) rfl <| en_g_yes rfl rfl <| en_det (opT_move rfl) rfl <| en_g_yes rfl rfl <| en_calld (cC) rfl rfl rfl rfl <| ?_
                  first | refine en_det (opT_pick_t rfl rfl) rfl ?_ | refine en_det (opT_pick_f rfl rfl) rfl ?_
                  refine en_nil <| en_then <| en_cond_f rfl <| en_skip <| en_blk <| en_then <| en_region <| en_det (opT_add rfl rfl (by constructor <;> omega)) rfl <| en_det (opT_move rfl) rfl <| en_nil <| en_then <| ?_
                  exact en_again (n + 1, .slice bad (natsI best).length bcp, h3) ⟨by simp only; omega, hs2.trans hs3, by rw [e]; exact hb3⟩ (by simp only; omega) ⟨rfl, rfl, rfl, gb rfl (by rw [e]), rfl, gi rfl (by simp), trivial⟩ (.refl _) (tkAll _)
              · have hcand : candB best true L = false := by simp [candB, c2]; omega
                have e := no1 hcand
                refine en_exit <| en_then_exit <| en_then_exit <| en_blk_hit <| en_then <| en_seq <| en_region <| en_det (opT_move rfl) rfl <| ?_
                first | refine en_det (opT_not_t rfl) rfl ?_ | refine en_det (opT_not_f rfl) rfl ?_ | refine en_det (opT_not rfl) rfl ?_
                refine en_det (opT_move rfl) rfl <| en_g_yes rfl rfl <| en_det (opT_move rfl) rfl <| en_g_yes rfl rfl <| en_det (opT_len rfl) rfl <| en_g_yes rfl rfl <| en_det (opT_move rfl) rfl <| en_g_yes rfl rfl <| en_det (opT_len rfl) rfl <| en_g_yes rfl rfl <| en_det (opT_lss_f rfl rfl (by omega)) rfl <| ?_
                first | refine en_det (opT_pick_t rfl rfl) rfl ?_ | refine en_det (opT_pick_f rfl rfl) rfl ?_
                refine en_det (opT_move rfl) rfl <| en_g_yes rfl rfl <| en_det (opT_move rfl) rfl <| en_g_yes rfl rfl <| en_det (opT_len rfl) rfl <| en_g_yes rfl rfl <| en_det (opT_move rfl) rfl <| en_g_yes rfl rfl <| en_det (opT_len rfl) rfl <| en_g_yes rfl rfl <| en_det (opT_eql_t rfl rfl (by omega)) rfl <| en_g_yes rfl rfl <| en_det (opT_move rfl) rfl <| en_g_yes rfl rfl <| en_det (opT_move rfl) rfl <| en_g_yes rfl rfl <| en_det (opT_move rfl) rfl <| en_g_yes rfl rfl <| en_calld (cM) rfl rfl rfl rfl <| en_g_yes rfl rfl <| en_det (opT_lss_f rfl rfl (by omega)) rfl <| en_g_yes rfl rfl <| ?_
                first | refine en_det (opT_pick_t rfl rfl) rfl ?_ | refine en_det (opT_pick_f rfl rfl) rfl ?_
                first | refine en_det (opT_pick_t rfl rfl) rfl ?_ | refine en_det (opT_pick_f rfl rfl) rfl ?_
                refine en_det (opT_move rfl) rfl <| en_g_no rfl rfl rfl <| en_g_no rfl rfl rfl <| en_g_no rfl rfl rfl <| ?_
                first | refine en_det (opT_pick_t rfl rfl) rfl ?_ | refine en_det (opT_pick_f rfl rfl) rfl ?_
                refine en_nil <| en_then <| en_cond_f rfl <| en_skip <| en_blk <| en_then <| en_region <| en_det (opT_add rfl rfl (by constructor <;> omega)) rfl <| en_det (opT_move rfl) rfl <| en_nil <| en_then <| ?_
                exact en_again (n + 1, .slice bad (natsI best).length bcp, h3) ⟨by simp only; omega, hs2.trans hs3, by rw [e]; exact hb3⟩ (by simp only; omega) ⟨rfl, rfl, rfl, gb rfl (by rw [e]), rfl, gi rfl (by simp), trivial⟩ (.refl _) (tkAll _)
            · have hcand : candB best true L = false := by simp [candB, c2]; omega
              have e := no1 hcand
              refine en_exit <| en_then_exit <| en_then_exit <| en_blk_hit <| en_then <| en_seq <| en_region <| en_det (opT_move rfl) rfl <| ?_
              first | refine en_det (opT_not_t rfl) rfl ?_ | refine en_det (opT_not_f rfl) rfl ?_ | refine en_det (opT_not rfl) rfl ?_
              refine en_det (opT_move rfl) rfl <| en_g_yes rfl rfl <| en_det (opT_move rfl) rfl <| en_g_yes rfl rfl <| en_det (opT_len rfl) rfl <| en_g_yes rfl rfl <| en_det (opT_move rfl) rfl <| en_g_yes rfl rfl <| en_det (opT_len rfl) rfl <| en_g_yes rfl rfl <| en_det (opT_lss_f rfl rfl (by omega)) rfl <| ?_
              first | refine en_det (opT_pick_t rfl rfl) rfl ?_ | refine en_det (opT_pick_f rfl rfl) rfl ?_
              refine en_det (opT_move rfl) rfl <| en_g_yes rfl rfl <| en_det (opT_move rfl) rfl <| en_g_yes rfl rfl <| en_det (opT_len rfl) rfl <| en_g_yes rfl rfl <| en_det (opT_move rfl) rfl <| en_g_yes rfl rfl <| en_det (opT_len rfl) rfl <| en_g_yes rfl rfl <| en_det (opT_eql_f rfl rfl (by omega)) rfl <| en_g_yes rfl rfl <| en_det (opT_move rfl) rfl <| en_g_no rfl rfl rfl <| en_g_no rfl rfl rfl <| en_g_no rfl rfl rfl <| en_g_no rfl rfl rfl <| en_g_yes rfl rfl <| ?_
              first | refine en_det (opT_pick_t rfl rfl) rfl ?_ | refine en_det (opT_pick_f rfl rfl) rfl ?_
              first | refine en_det (opT_pick_t rfl rfl) rfl ?_ | refine en_det (opT_pick_f rfl rfl) rfl ?_
              refine en_det (opT_move rfl) rfl <| en_g_no rfl rfl rfl <| en_g_no rfl rfl rfl <| en_g_no rfl rfl rfl <| ?_
              first | refine en_det (opT_pick_t rfl rfl) rfl ?_ | refine en_det (opT_pick_f rfl rfl) rfl ?_
              refine en_nil <| en_then <| en_cond_f rfl <| en_skip <| en_blk <| en_then <| en_region <| en_det (opT_add rfl rfl (by constructor <;> omega)) rfl <| en_det (opT_move rfl) rfl <| en_nil <| en_then <| ?_
              exact en_again (n + 1, .slice bad (natsI best).length bcp, h3) ⟨by simp only; omega, hs2.trans hs3, by rw [e]; exact hb3⟩ (by simp only; omega) ⟨rfl, rfl, rfl, gb rfl (by rw [e]), rfl, gi rfl (by simp), trivial⟩ (.refl _) (tkAll _)
    · skip
      obtain rfl : n = 2 ^ b.nh := by omega
      have hfe : fewF b left (2 ^ b.nh) = fewB b left := rfl
      rw [hfe] at hbest ⊢
      cases hfd : (fewB b left).2 with
      | false =>
        skip
        refine en_exit <| en_then_exit <| en_then_exit <| en_blk_hit <| en_then <| en_seq <| en_seq <| en_region <| en_det (opT_move rfl) rfl <| ?_
        first | refine en_det (opT_not_t rfl) rfl ?_ | refine en_det (opT_not_f rfl) rfl ?_ | refine en_det (opT_not rfl) rfl ?_
        refine en_nil <| en_then <| en_cond_t rfl <| en_seq <| en_region <| en_det (opT_assign rfl) rfl <| en_det (opT_assign rfl) rfl <| en_nil <| en_then <| en_ret <| en_then_ret <| ?_
        refine en_return (rs := [.tmp 4, .tmp 5]) rfl (.cons (.tmp rfl) (.cons (.tmp rfl) .nil)) (hs1.trans hs2) (Γ1 := []) ⟨rfl, .inl ⟨hz, hfd, rfl⟩⟩
      | true =>
        refine en_exit <| en_then_exit <| en_then_exit <| en_blk_hit <| en_then <| en_seq <| en_seq <| en_region <| en_det (opT_move rfl) rfl <| ?_
        first | refine en_det (opT_not_t rfl) rfl ?_ | refine en_det (opT_not_f rfl) rfl ?_ | refine en_det (opT_not rfl) rfl ?_
        refine en_nil <| en_then <| en_cond_f rfl <| en_skip <| en_then <| en_seq <| en_region <| en_det (opT_move rfl) rfl <| en_det (opT_assign rfl) rfl <| en_det (opT_assign rfl) rfl <| en_nil <| en_then <| en_ret <| ?_
        refine en_return (rs := [.tmp 4, .tmp 5]) rfl (.cons (.tmp rfl) (.cons (.tmp rfl) .nil)) (hs1.trans hs2) (Γ1 := []) ⟨rfl, .inr (.inl ⟨hz, hfd, _, rfl, hbest⟩)⟩
  · refine en_norm ?_
    refine en_det (opT_move rfl) rfl <| en_det (opT_extract rfl rfl) rfl <| en_det (opT_extract rfl rfl) rfl <| en_det (opT_assign rfl) rfl <| en_det (opT_assign rfl) rfl <| en_nil <| en_then <| en_seq <| en_seq <| en_region <| en_det (opT_move rfl) rfl <| en_det (opT_neq_t rfl rfl (by omega)) rfl <| en_nil <| en_then <| en_cond_t rfl <| en_seq <| en_region <| en_det (opT_move rfl) rfl <| en_det (opT_assign rfl) rfl <| en_det (opT_assign rfl) rfl <| en_nil <| en_then <| en_ret <| en_then_ret <| ?_
    refine en_return (rs := [.tmp 4, .tmp 5]) rfl (.cons (.tmp rfl) (.cons (.tmp rfl) .nil)) hs1 (Γ1 := []) ⟨rfl, .inr (.inr ⟨hz, rfl⟩)⟩
end Go.Sx

/- Slices against nil; effects in regions that draw when nothing owned is read late. -/
namespace Go.Sx
section
variable {P : Program} {n : Nat} {ρ : Env} {h : Heap} {Γ : List HP} {d : Option Nat} {ty : TypeId} {pos : String} {af : Array Edge} {gd : Option (Nat × Bool)} {x y : Operand} {t t' e : TypeId} {m k : Nat}
/-- 's == nil', 's != nil'. -/
theorem opT_eqNil {ad : Option Addr} [hT : Ty P t (.slice e)] (hx : ρ.ev x = some (.slice ad m k)) (hy : ρ.ev y = some (.slice none 0 0)) : OpT P n ⟨d, .binOp .eql t x y t', ty, pos, af, gd⟩ ρ h Γ (Det (.bool ad.isNone) h Γ) :=
  opT_pure (by simp) fun a en w => by
    have h0 : (eqGuard .eql t x y (.slice ad m k) (.slice none 0 0)).run P w = .ok () w := by
      unfold eqGuard; simp [Sem.run, pure]
    have h1 : (Op.equal t (.slice ad m k) (.slice none 0 0)).run P w = .ok ad.isNone w := by
      unfold Op.equal Op.maxDepth
      have : ∀ dep, (Op.equalIn (dep + 1) t (.slice ad m k) (.slice none 0 0)).run P w = .ok ad.isNone w := fun dep => by
        simp only [Op.equalIn, Sem.run_bind, run_und hT.und, Result.andThen_ok]
        cases ad <;> simp [Sem.run, pure]
      exact this 9999
    have h2 : (binOp .eql t (.slice ad m k) (.slice none 0 0)).run P w = .ok (.bool ad.isNone) w := by
      simp [binOp, h1]
    simp only [execOp, en.ev hx, en.ev hy, Sem.run_bind, h0, h2, Result.andThen_ok, Sem.run, pure]
end
section
variable {l : List Oper} {P : Program} {n : Nat} {rd : Option Nat} {Q : Exit → Act → World → Prop} {Φ : Fr}
theorem dp_e1 {e : Nat} {rest np : List Nat} {σ : Env} {h0 hc : Heap} {Γx : List HP} {d : Option Nat} {op : Op} {ty : TypeId} {pos : String} {af : Array Edge} {C : Value → Heap → List HP → Prop} (ho : l[e]? = some ⟨d, op, ty, pos, af, none⟩)
    (t : OpT P n ⟨d, op, ty, pos, af, none⟩ σ hc Γx C) (hsel : tame op = true) (hσ : (σ.all fun p => Nat.blt p.1 n) = true)
    (ho1 : (rest.all fun k => (e :: rest).any fun m => dirB l k m) = true) (ho2 : ((e :: rest).all fun k => !dirB l e k) = true)
    (H : ∀ v h' Γ', hc.sub h' → C v h' Γ' → DP l P n rd Q Φ rest np (consO d v σ) h0 [] h' Γ') : DP l P n rd Q Φ (e :: rest) np σ h0 [] hc Γx :=
  dp_e (Γ0 := []) ho t hsel hσ ho1 ho2 fun v h' Γ' a b => ⟨Γ', .refl _, H v h' Γ' a b⟩
theorem dp_ed1 {e : Nat} {rest np : List Nat} {σ : Env} {h0 hc : Heap} {Γx Γy : List HP} {d : Option Nat} {v : Value} {op : Op} {ty : TypeId} {pos : String} {af : Array Edge} (ho : l[e]? = some ⟨d, op, ty, pos, af, none⟩)
    (t : OpT P n ⟨d, op, ty, pos, af, none⟩ σ hc Γx (Det v hc Γy)) (hsel : tame op = true) (hσ : (σ.all fun p => Nat.blt p.1 n) = true)
    (ho1 : (rest.all fun k => (e :: rest).any fun m => dirB l k m) = true) (ho2 : ((e :: rest).all fun k => !dirB l e k) = true)
    (H : DP l P n rd Q Φ rest np (consO d v σ) h0 [] hc Γy) : DP l P n rd Q Φ (e :: rest) np σ h0 [] hc Γx :=
  dp_e1 ho t hsel hσ ho1 ho2 fun v' h' Γ' _ ⟨a, b, c⟩ => by subst a b c; exact H
theorem en_draw1 {id : Nat} {ρ : Env} {h : Heap} {Γ : List HP} (ord : List Nat) (hm : P.follows .mixedOrders = true) (hchk : chk l n = true)
    (hord : (ord.all (fun i => decide (i < l.length)) && (List.range l.length).all fun i => ord.contains i) = true) (hnd : ord.Nodup) (dp : DP l P n rd Q Φ ord [] ρ h [] h Γ) :
    En n Φ ((Code.region id l.toArray true).wpIn (fence rd) 0 P Q) ρ h Γ := en_draw (Γ0 := []) (Γx := Γ) ord hm hchk hord hnd (.refl _) dp
theorem dp_done1 {np : List Nat} {σ : Env} {h0 hc : Heap} {Γx : List HP} (H : En n Φ (Q .normal) σ hc Γx) : DP l P n rd Q Φ [] np σ h0 [] hc Γx := .done H
end
section
variable {P : Program} {n : Nat} {ρ : Env} {h : Heap} {Γ Δ Δ' : List HP} {d : Option Nat} {ty : TypeId} {pos : String} {af : Array Edge} {gd : Option (Nat × Bool)}
variable {T e U : TypeId} {x y : Operand} {zs cs xs : List Value} {by_ sz m b cap : Nat} {v : Value} {G : List Value → List HP}
theorem opT_app1 [hT : Ty P T (.slice e)] [hI : Info P e zs sz by_] [p : OwnIn Γ v e sz m xs Δ] [q : Upd Δ b U cs Δ' G] (hx : ρ.ev x = some v) (hy : ρ.ev y = some (.slice (some ⟨b, 0, none⟩) 1 cap)) (hl : Nat.beq cs.length sz = true) (h1 : cs.all Value.oneCell' = true)
    (hz : Nat.blt 0 sz = true) (hby : Nat.ble by_ 100000 = true) (hm : m < 1000000000) :
    OpT P n ⟨d, .call { callee := .builtin .append, args := #[x, y], argTypes := #[T, T] }, ty, pos, af, gd⟩ ρ h Γ (fun v' h' Γ' => h' = h ∧ Γ' = own e sz v' (m + 1) (xs ++ cs) :: Δ ∧ (v' = .slice none 0 0 → m + 1 = 0)) := by
  have hl' : cs.length = 1 * sz := by rw [Nat.one_mul]; exact Nat.eq_of_beq_eq_true hl
  have hz' : 0 < sz := by simpa [Nat.blt_eq] using hz
  have hby' : by_ ≤ 100000 := by simpa using hby
  have hpk : Pick Γ (own e sz v m xs) Δ := ⟨p.perm⟩
  exact opT_append (k := 1) (m := m) (xs := xs) (news := cs) (Δ := Δ) (sz := sz) (v := v) hx hy (src_box hl') (fun q hq => List.all_eq_true.1 h1 q hq) hz' (by omega) (Nat.le_trans (Nat.mul_le_mul (by omega : m + 1 ≤ 1000000000) hby') (by decide))
end

section
variable {l : List Oper} {P : Program} {n : Nat} {rd : Option Nat} {Q : Exit → Act → World → Prop} {Φ : Fr}
/-- Two effects that are not ordered: each of them may be the first. -/
theorem dp_two1 {e1 e2 : Nat} {td r1 r2 np : List Nat} {σ : Env} {h0 hc : Heap} {Γx : List HP} {d1 d2 : Option Nat} {op1 op2 : Op} {ty1 ty2 : TypeId} {pos1 pos2 : String} {af1 af2 : Array Edge} {C1 C2 : Value → Heap → List HP → Prop} (hne : Nat.beq e2 e1 = false)
    (ho1 : l[e1]? = some ⟨d1, op1, ty1, pos1, af1, none⟩) (ho2 : l[e2]? = some ⟨d2, op2, ty2, pos2, af2, none⟩) (t1 : OpT P n ⟨d1, op1, ty1, pos1, af1, none⟩ σ hc Γx C1) (t2 : OpT P n ⟨d2, op2, ty2, pos2, af2, none⟩ σ hc Γx C2) (hs1 : tame op1 = true) (hs2 : tame op2 = true)
    (hσ : (σ.all fun p => Nat.blt p.1 n) = true) (htd : td ≠ []) (hc1 : (td.all fun k => [e1, e2].contains k || td.any fun m => dirB l k m) = true) (hc2 : ([e1, e2].all fun e => td.all fun k => !dirB l e k) = true) (hr1 : td.erase e1 = r1) (hr2 : td.erase e2 = r2)
    (H1 : ∀ v h' Γ', hc.sub h' → C1 v h' Γ' → DP l P n rd Q Φ r1 np (consO d1 v σ) h0 [] h' Γ') (H2 : ∀ v h' Γ', hc.sub h' → C2 v h' Γ' → DP l P n rd Q Φ r2 np (consO d2 v σ) h0 [] h' Γ') : DP l P n rd Q Φ td np σ h0 [] hc Γx := by
  have hne' : e2 ≠ e1 := fun e => by subst e; rw [Nat.beq_refl] at hne; cases hne
  have hd1 : dstOf l e1 = d1 := by simp [dstOf, ho1]
  have hd2 : dstOf l e2 = d2 := by simp [dstOf, ho2]
  refine .eff [e1, e2] htd hc1 hc2 (fun e => if e = e1 then C1 else C2) (fun _ _ _ Γ' => Γ') (fun e he => ?_) (fun _ _ _ _ _ _ _ => .refl _) (fun e v h' Γ' he hs hC => ?_)
  · rcases List.mem_cons.1 he with rfl | he
    · simp only [if_true]; exact eff_of ho1 hs1 hσ t1
    · simp only [List.mem_singleton] at he; subst he
      simp only [if_neg hne']; exact eff_of ho2 hs2 hσ t2
  · rcases List.mem_cons.1 he with rfl | he
    · simp only [if_true] at hC; rw [hd1, hr1]; exact H1 v h' Γ' hs hC
    · simp only [List.mem_singleton] at he; subst he
      simp only [if_neg hne'] at hC; rw [hd2, hr2]; exact H2 v h' Γ' hs hC
end

theorem St.freeze_own {Φ : Fr} {h : Heap} {Γ : List HP} {w : World} {T : TypeId} {sz m : Nat} {v : Value} {xs : List Value} (s : St Φ h (own T sz v m xs :: Γ) w) : ∃ h', h.sub h' ∧ SlH h' sz v m xs ∧ St Φ h' Γ w := by
  obtain ⟨k1, k2, ⟨hl, hp⟩, r1, r2, r3, r4, r5, r6, r7, r8⟩ := s.head
  rcases hp with ⟨hv, h0, hk⟩ | ⟨b, cap, cs, hv, hk, hmc, hc, hlen, ht⟩
  · exact ⟨h, .refl _, ⟨hl, Option.none, 0, by rw [hv, h0], by omega, by omega, fun x => by omega⟩, s.drop⟩
  · have s' : St Φ h (box b T cs :: Γ) w := St.mk hk r1 r2 r3 r4 r5 r6 r7 r8
    obtain ⟨y, hn⟩ := St.freeze (b := b) (o := .cells cs.toArray T (0, 0)) s'
    refine ⟨_, Heap.un_left _ _, ⟨hl, _, cap, hv, hmc, hc, fun _ => ⟨b, 0, rfl, fun j u hj => ?_⟩⟩, y⟩
    have hcell : cs[j]? = some u := by
      rw [← ht, List.getElem?_take] at hj
      split at hj
      · exact hj
      · cases hj
    simp [cellH, Heap.un, hn, Heap.one, hcell]
theorem opT_fz {P : Program} {n : Nat} {o : Oper} {ρ : Env} {h : Heap} {Γ Δ : List HP} {T : TypeId} {sz m : Nat} {xs : List Value} {p : Value → Prop} (t : OpT P n o ρ h Γ (fun v h' Γ' => h' = h ∧ Γ' = own T sz v m xs :: Δ ∧ p v)) :
    OpT P n o ρ h Γ (fun v h' Γ' => SlH h' sz v m xs ∧ Γ' = Δ) := by
  intro rd Φ a w K Q e s hk
  refine t rd Φ a w K Q e s fun v h' Γ' w' hs ⟨e1, e2, _⟩ s' => ?_
  subst e1 e2
  obtain ⟨h2, hs2, hsl, s2⟩ := s'.freeze_own
  exact hk v h2 Δ w' hs2 ⟨hsl, rfl⟩ s2

section
variable {P : Program} {n : Nat} {ρ : Env} {h : Heap} {Γ : List HP} {d : Option Nat} {ty : TypeId} {pos : String} {af : Array Edge} {gd : Option (Nat × Bool)} {x y : Operand} {t t' : TypeId} {m k : Int} {kd : IntKind}
/-- Sums, differences, products, as they are wrapped. -/
theorem opT_addw (hx : ρ.ev x = some (.int kd m)) (hy : ρ.ev y = some (.int kd k)) : OpT P n ⟨d, .binOp .add t x y t', ty, pos, af, gd⟩ ρ h Γ (Det (.int kd (kd.wrap (m + k))) h Γ) :=
  opT_bin hx hy (by simp) (by simp) fun w => by simp [Op.intArith, Sem.run, pure]
theorem opT_mulw (hx : ρ.ev x = some (.int kd m)) (hy : ρ.ev y = some (.int kd k)) : OpT P n ⟨d, .binOp .mul t x y t', ty, pos, af, gd⟩ ρ h Γ (Det (.int kd (kd.wrap (m * k))) h Γ) :=
  opT_bin hx hy (by simp) (by simp) fun w => by simp [Op.intArith, Sem.run, pure]
end
theorem wrap_u64 (x : Int) : 0 ≤ IntKind.u64.wrap x ∧ IntKind.u64.wrap x < 18446744073709551616 := by
  have h : IntKind.u64.wrap x = x % 18446744073709551616 := by rfl
  rw [h]
  exact ⟨Int.emod_nonneg _ (by decide), Int.emod_lt_of_pos _ (by decide)⟩
end Go.Sx

/- How many pieces are wrong at most. -/
namespace Go.Sx
open Go.Proofs
set_option maxRecDepth 100000
theorem RInv.weaken {nt nh c c' : Nat} {l p : Nat → Nat → Int} (i : RInv nt nh c l p) (h : c ≤ c') : RInv nt nh c' l p := ⟨i.l0, fun a m ha hm => by have := i.h0 a m ha hm; omega⟩
theorem tray_inv {nt nh t : Nat} {H : Nat → HandD} (ok : ∀ i, i < nh → OKH (H i)) (ht : t < nt) : ∀ (order : List Nat) (c : Nat) (S : (Nat → Nat → Int) × (Nat → Nat → Int)), (∀ x ∈ order, x < nh) → RInv nt nh c S.1 S.2 → RInv nt nh (c + order.length) (trayT H order S t).1 (trayT H order S t).2
  | [], c, S, _, i => i
  | x :: xs, c, S, hlt, i => by
    have hx := hlt x (by simp)
    have i2 := RInv.hand (t := t) (h := x) (H := H) i (ok x hx) ht hx
    have := tray_inv ok ht xs (c + 1) (handT H t S x) (fun y hy => hlt y (by simp [hy])) i2
    show RInv nt nh (c + (xs.length + 1)) (trayT H xs (handT H t S x) t).1 (trayT H xs (handT H t S x) t).2
    rw [show c + (xs.length + 1) = c + 1 + xs.length by omega]; exact this
theorem rule_inv {nt nh : Nat} {H : Nat → HandD} {T : Nat → Nat → Int} {order : List Nat} (ok : ∀ i, i < nh → OKH (H i)) (hlt : ∀ x ∈ order, x < nh) (hTb : ∀ i m, i < nt → m < 5 → 0 ≤ T i m ∧ T i m ≤ 60) : ∀ k, k ≤ nt → RInv nt nh (k * order.length) (ruleN H T order k).1 (ruleN H T order k).2
  | 0, _ => ⟨hTb, fun _ _ _ _ => by simp [ruleN]⟩
  | k + 1, hk => by
    rw [ruleN_succ, Nat.add_mul, Nat.one_mul]
    exact tray_inv ok (by omega) order _ _ hlt (rule_inv ok hlt hTb k (by omega))
def heapsB (b : BeltD) : Nat → Nat → Int := (ruleN b.hand b.tray (allH b) b.nt).2
def wrongD (b : BeltD) (i : Nat) : Int := (sum5 (heapsB b i) * (b.hand i).slip + 99) / 100
def wrongL (b : BeltD) : List Int := (List.range b.nh).map (wrongD b)
theorem heaps_bound {b : BeltD} (hk : BOK b) {i m : Nat} (hi : i < b.nh) (hm : m < 5) : 0 ≤ heapsB b i m ∧ heapsB b i m ≤ 2400 := by
  have := (rule_inv hk.ok (allH_lt b) hk.tr b.nt (Nat.le_refl _)).h0 i m hi hm
  have h2 : b.nt * (allH b).length ≤ 8 * 5 := Nat.mul_le_mul hk.n8 (by rw [allH_len]; exact hk.h5)
  unfold heapsB
  omega
def WrongR (b : BeltD) (v : Value) (h' : Heap) (Γ' : List HP) : Prop :=
  Γ' = [] ∧ ((checkD b = 0 ∧ ∃ lv, v = .tuple #[lv, .int .i64 0] ∧ IsInts h' lv (wrongL b)) ∨ (checkD b ≠ 0 ∧ v = .tuple #[nilS, .int .i64 (checkD b)]))
attribute [local irreducible] Code.wpIn wpListIn Exit.then Exit.inBlock BQ Again Hd St En OpT box blk RQ BQ0 fmap own Desk

theorem wrong_ct (h : Heap) (tv hv : Value) (b : BeltD) (hb : IsBelt h (.agg #[tv, hv]) b) : CT Try.prog 30 [.agg #[tv, hv]] h [] (WrongR b) := by
  have cA := run29_ct h tv hv b hb
  obtain ⟨hT, hH⟩ := belt_parts hb
  obtain ⟨rv, ⟨_, had, hcp, rfl, hm1, hc1, hp1⟩, hr⟩ := hH
  refine ct_intro Try.func30 rfl rfl rfl rfl fun Φ => ?_
  refine en_seq <| en_region <| en_box rfl rfl rfl fun b1 => en_det (opT_assign rfl) rfl <| en_det (opT_assign rfl) rfl <| en_nil <| en_then <| en_seq <| en_region <| ?_
  first | refine en_det (opT_loadW_own rfl rfl) rfl ?_ | refine en_det (opT_loadA_own rfl) rfl ?_
  refine en_call cA rfl rfl rfl rfl fun v h1 Γ' hs1 hv' => ?_
  skip
  obtain ⟨rfl, hv'⟩ := hv'
  rcases hv' with ⟨hz, lv, rfl, hlv⟩ | ⟨hz, rfl⟩
  · refine en_norm ?_
    have hk := check_ok.1 hz
    have h5 := hk.h5
    obtain ⟨_, lad, lcp, rfl, lm, lc, lp⟩ := hlv
    refine en_fzb fun h2 hs2 hb2 => ?_
    have k1 : cellH h2 b1 1 = some (.slice had b.nh hcp) := cellH_box hb2 rfl
    refine en_own_nil 3 1 ?_
    refine en_det (opT_move rfl) rfl <| en_det (opT_extract rfl rfl) rfl <| en_det (opT_extract rfl rfl) rfl <| en_det (opT_assign rfl) rfl <| en_det (opT_assign rfl) rfl <| en_nil <| en_then <| en_seq <| en_seq <| en_region <| en_det (opT_move rfl) rfl <| en_det (opT_neq_f rfl rfl (by omega)) rfl <| en_nil <| en_then <| en_cond_f rfl <| en_skip <| en_then <| en_seq <| en_region <| en_det (opT_assign rfl) rfl <| en_nil <| en_then <| en_seq <| en_seq <| en_region <| en_det (opT_move rfl) rfl <| en_det (opT_len rfl) rfl <| en_det (opT_move rfl) rfl <| en_nil <| en_then <| en_block <| ?_
    refine en_loop (fun x : Nat × Value => x.1 ≤ b.nh) (fun x => [(1, .pointer (some ⟨b1, 0, none⟩)), (6, x.2), (17, .slice lad b.nh lcp), (18, .int .i64 b.nh), (19, .int .i64 x.1)]) (fun _ => h2) (fun x => [own 3 1 x.2 x.1 (((List.range x.1).map (wrongD b)).map (Value.int .i64))]) (fun x => b.nh - x.1) (0, nilS) (by simp) ⟨rfl, rfl, rfl, rfl, rfl, trivial⟩ (.refl _) (tkAll _) fun x hk' => ?_
    obtain ⟨k, ov⟩ := x
    simp only at hk'
    change En _ _ _ [(1, .pointer (some ⟨b1, 0, none⟩)), (6, ov), (17, .slice lad b.nh lcp), (18, .int .i64 b.nh), (19, .int .i64 k)] h2 [own 3 1 ov k (((List.range k).map (wrongD b)).map (Value.int .i64))]
    refine en_seq <| en_region <| ?_
    first | refine en_det (opT_lss_t rfl rfl (by omega)) rfl ?_ | refine en_det (opT_lss_f rfl rfl (by omega)) rfl ?_ | refine en_det (opT_lss rfl rfl) rfl ?_
    refine en_nil <| en_then <| en_seq <| ?_
    refine en_if rfl (fun hlt1 => ?_) (fun hlt1 => ?_)
    · skip
      have hkn : k < b.nh := by omega
      obtain ⟨lb, loff, rfl, lcells⟩ := lp (by omega)
      obtain ⟨hbb, hoff, rfl, hcells⟩ := hp1 (by omega)
      have hrow : CellsH h2 lb (loff + k * 5) (row 5 (icell (heapsB b) k)) := (lcells.row hkn).mono hs2
      have hslip : cellH h2 hbb (hoff + k * 9 + 7) = some (.int .i64 (b.hand k).slip) := cellH_sub (hs1.trans hs2) (hcells.cell hkn (by omega))
      have hsl := hk.sl k hkn
      have hsb := sumN_bound (n := 5) (f := heapsB b k) (B := 2400) fun m hm => heaps_bound hk hkn hm
      have hsum : sum5 (heapsB b k) = sumN 5 (heapsB b k) := rfl
      have cS : ∀ bx, CT Try.prog 76 [.slice (some ⟨bx, 0, none⟩) 5 5] h2 [box bx 31 (row 5 (icell (heapsB b) k))] (DetW (.int .i64 (sum5 (heapsB b k))) [box bx 31 (row 5 (icell (heapsB b) k))]) := fun bx =>
        add_own_ct h2 bx 0 5 5 31 _ (heapsB b k) (by omega) (fun j hj => by have := heaps_bound hk hkn hj; omega) (fun j hj => by rw [Nat.zero_add]; exact row_get hj)
      have hw : wrongD b k = (sum5 (heapsB b k) * (b.hand k).slip + 99) / 100 := rfl
      generalize sum5 (heapsB b k) = S at hsum cS hw
      have hm0 : 0 ≤ S * (b.hand k).slip := Int.mul_nonneg (by omega) hsl.1
      have hm1' : S * (b.hand k).slip ≤ 12000 * 100 := Int.mul_le_mul (by omega) hsl.2 hsl.1 (by omega)
      refine en_skip <| en_then <| en_seq <| en_block <| en_seq <| en_region <| en_det (opT_move rfl) rfl <| ?_
      first | refine en_det (opT_idx1 rfl rfl (by omega) (by omega)) rfl ?_ | refine en_det (opT_idx (ks := 0) rfl rfl (by omega) (by omega)) rfl ?_
      first | refine en_det (opT_loadA_h rfl (by assumption) (by rfl)) rfl ?_ | refine en_det (opT_loadW_own rfl rfl) rfl ?_ | refine en_det (opT_loadA_own rfl) rfl ?_
      refine en_alloc rfl fun b8 => ?_
      refine en_det (opT_assign rfl) rfl <| en_det0 (opT_storeW rfl rfl rfl rfl (one_trayL (heapsB b k))) <| en_nil <| en_then <| ?_
      refine en_draw1 [0, 1, 3, 4, 5, 6, 7, 8, 2, 9, 10, 11, 12, 13, 14] (by kernel_rfl) (by decide +kernel) (by decide +kernel) (by decide) ?_
      refine dp_p rfl (fun _ _ => opT_move rfl) rfl rfl rfl <| dp_p rfl (fun _ _ => opT_sliceArr (by omega) rfl) rfl rfl rfl <| dp_p rfl (fun _ _ => opT_fieldAddr rfl) rfl rfl rfl <| dp_q rfl (opT_load_h rfl k1) rfl rfl rfl <| dp_p rfl (fun _ _ => opT_move rfl) rfl rfl rfl <| ?_
      refine dp_p rfl (fun _ _ => opT_idx (ks := 0) rfl rfl (by omega) (by omega)) rfl rfl rfl ?_
      refine dp_p rfl (fun _ _ => opT_fieldAddr rfl) rfl rfl rfl <| dp_q rfl (opT_load_h rfl hslip) rfl rfl rfl <| ?_
      refine dp_ed1 rfl (opT_callw (cS b8) rfl rfl rfl) rfl rfl rfl rfl ?_
      refine dp_p rfl (fun _ _ => opT_mul rfl rfl (by constructor <;> omega)) rfl rfl rfl ?_
      refine dp_p rfl (fun _ _ => opT_add rfl rfl (by constructor <;> omega)) rfl rfl rfl ?_
      refine dp_p rfl (fun _ _ => opT_quo rfl rfl (by omega) (by omega) (by omega)) rfl rfl rfl ?_
      rw [← hw]
      refine dp_e1 rfl (opT_buildSlice (cs := [.int .i64 (wrongD b k)]) rfl rfl (by kernel_rfl)) rfl rfl rfl rfl fun _ _ _ _ ⟨bq, e1, e2, e3⟩ => ?_
      subst e1 e3; replace e2 := e2.symm; subst e2
      refine dp_e1 rfl (opT_app1 rfl rfl rfl rfl rfl rfl (by omega)) rfl rfl rfl rfl fun vq _ _ _ ⟨e2, e3, _⟩ => ?_
      subst e3; replace e2 := e2.symm; subst e2
      refine dp_p rfl (fun _ _ => opT_assign rfl) rfl rfl rfl <| dp_done1 ?_
      refine en_blk <| en_then <| en_region <| en_det (opT_add rfl rfl (by constructor <;> omega)) rfl <| en_det (opT_move rfl) rfl <| en_nil <| en_then <| ?_
      refine en_again (k + 1, vq) (by simp only; omega) (by simp only; omega) ⟨rfl, rfl, rfl, rfl, gi rfl (by simp), trivial⟩ (.refl _) (by
        simp only [List.range_succ, List.map_append, List.map_cons, List.map_nil]; exact inferInstance)
    · skip
      obtain rfl : k = b.nh := by omega
      refine en_exit <| en_then_exit <| en_then_exit <| en_blk_hit <| en_then <| en_seq <| en_region <| en_det (opT_move rfl) rfl <| en_det (opT_assign rfl) rfl <| en_det (opT_assign rfl) rfl <| en_nil <| en_then <| en_ret <| ?_
      refine en_freeze_own fun h3 hs3 hsl _ => ?_
      refine en_return (rs := [.tmp 2, .tmp 3]) rfl (.cons (.tmp rfl) (.cons (.tmp rfl) .nil)) (hs1.trans (hs2.trans hs3)) (Γ1 := []) ⟨rfl, .inl ⟨hz, _, rfl, by simpa [IsInts, wrongL] using hsl⟩⟩
  · refine en_norm ?_
    refine en_det (opT_move rfl) rfl <| en_det (opT_extract rfl rfl) rfl <| en_det (opT_extract rfl rfl) rfl <| en_det (opT_assign rfl) rfl <| en_det (opT_assign rfl) rfl <| en_nil <| en_then <| en_seq <| en_seq <| en_region <| en_det (opT_move rfl) rfl <| en_det (opT_neq_t rfl rfl (by omega)) rfl <| en_nil <| en_then <| en_cond_t rfl <| en_seq <| en_region <| en_det (opT_move rfl) rfl <| en_det (opT_assign rfl) rfl <| en_det (opT_assign rfl) rfl <| en_nil <| en_then <| en_ret <| en_then_ret <| ?_
    refine en_return (rs := [.tmp 2, .tmp 3]) rfl (.cons (.tmp rfl) (.cons (.tmp rfl) .nil)) hs1 (Γ1 := []) ⟨rfl, .inr ⟨hz, rfl⟩⟩
end Go.Sx

/- A list of ints, cloned. -/
namespace Go.Sx
open Go.Proofs
set_option maxRecDepth 100000
attribute [local irreducible] Code.wpIn wpListIn Exit.then Exit.inBlock BQ Again Hd St En OpT box blk RQ BQ0 fmap own Desk
theorem clone107_ct (h : Heap) (v : Value) (l : List Int) (hv : IsInts h v l) (hl1 : l.length ≤ 1000) : CT Try.prog 107 [v] h [] (fun v' h' Γ' => h' = h ∧ ∃ ad cp, v' = .slice ad l.length cp ∧ Γ' = [own 3 1 v' l.length (l.map (Value.int .i64))]) := by
  have hv0 := hv
  obtain ⟨ad, cp, rfl, hl, hc, hp⟩ := hv.shape
  refine ct_intro Try.func107 rfl rfl rfl rfl fun Φ => ?_
  skip
  cases ad with
  | none =>
    have h0 : l.length = 0 := by
      rcases Nat.eq_zero_or_pos l.length with e | e
      · exact e
      · obtain ⟨b, off, e2, _⟩ := hp e; cases e2
    have hnil : l = [] := List.eq_nil_of_length_eq_zero h0
    subst hnil
    refine en_seq <| en_region <| en_det (opT_assign rfl) rfl <| en_nil <| en_then <| en_seq <| en_seq <| en_region <| en_det (opT_move rfl) rfl <| en_det (opT_eqNil rfl rfl) rfl <| en_nil <| en_then <| en_cond_t rfl <| en_seq <| en_region <| en_det (opT_assign rfl) rfl <| en_nil <| en_then <| en_ret <| en_then_ret <| ?_
    refine en_own_nil 3 1 ?_
    refine en_return (rs := [.tmp 2]) rfl (.cons (.tmp rfl) .nil) (.refl _) (Γ1 := [own 3 1 (.slice none 0 0) 0 []]) ⟨rfl, none, 0, rfl, rfl⟩
  | some ad =>
    refine en_seq <| en_region <| en_det (opT_assign rfl) rfl <| en_nil <| en_then <| en_seq <| en_seq <| en_region <| en_det (opT_move rfl) rfl <| en_det (opT_eqNil rfl rfl) rfl <| en_nil <| en_then <| en_cond_f rfl <| en_skip <| en_then <| en_seq <| en_region <| ?_
    refine en_op (opT_buildSlice (cs := []) rfl rfl (by kernel_rfl)) rfl fun _ _ _ _ ⟨b5, e1, e2, e3⟩ => ?_
    subst e1 e3; replace e2 := e2.symm; subst e2
    refine en_to_own 1 0 0 (by omega) (by omega) rfl ?_
    rw [show (List.take (0 * 1) ([] : List Value)) = [] from rfl]
    refine en_det (opT_move rfl) rfl <| ?_
    refine en_op (opT_append (m := 0) (k := l.length) (xs := []) (news := l.map (Value.int .i64)) (sz := 1) (e := 3) (Δ := []) (v := .slice (some ⟨b5, 0, none⟩) 0 0) rfl rfl (src_h hv0) (by simp [Value.oneCell']) (by omega) (by omega) (by omega)) rfl fun v7 _ _ _ ⟨e2, e3, _⟩ => ?_
    subst e3; replace e2 := e2.symm; subst e2
    refine en_own_shape fun ad7 cp7 hv7 _ _ _ => ?_
    subst hv7
    rw [Nat.zero_add, List.nil_append]
    refine en_det (opT_assign rfl) rfl <| en_nil <| en_then <| en_ret <| ?_
    refine en_return (rs := [.tmp 2]) rfl (.cons (.tmp rfl) .nil) (.refl _) (Γ1 := [own 3 1 (.slice ad7 l.length cp7) l.length (l.map (Value.int .i64))]) ⟨rfl, ad7, cp7, rfl, rfl⟩
end Go.Sx
