-- What each Go function that this law reaches comes to: written by a program out of the translation.
import Derived.Test.YtnoghojlpicecaaMFnSealedx0
import Derived.Test.YtnoghojlpicecaaMFnSealedx1
import Derived.Test.YtnoghojlpicecaaMFnSealedx2
import Derived.Test.YtnoghojlpicecaaMFnSealedx12
namespace Go.Proofs.Ytnoghojlpicecaa.PFnSealed
open Go.RowKit Go.Proofs.YtnoghojlpicecaaW.PrintWords Go.Proofs.YtnoghojlpicecaaW.PrintLast Go.Proofs.YtnoghojlpicecaaW.PrintMore
attribute [local go_sem] max2_int min2_int max_two min_two max_three min_three max_four min_four   -- for this text's walks alone
set_option linter.unusedVariables false
set_option linter.unusedSimpArgs false

/-! ### impl_kept: function 64 -/
def impl_kept.f (l0 : List (S35)) (a1_0 : Int) (a1_1 : Int) (a1_2 : Bool) (a1_3 : ByteArray) : Option ((List (S35))) := (impl_placeIn.f l0 a1_0).bind fun bt573 => (if bt573.2 = true then (if 0 ≤ bt573.1 then (if bt573.1 < (l0.length : Int) then ((impl_Better.f ((rd_T35 l0 bt573.1).f0) ((rd_T35 l0 bt573.1).f1) ((rd_T35 l0 bt573.1).f2) ((rd_T35 l0 bt573.1).f3) a1_0 a1_1 a1_2 a1_3).bind fun bt576 => (some (l0.set (bt573.1 : Int).toNat (⟨bt576.1, bt576.2.1, bt576.2.2.1, bt576.2.2.2⟩ : S35)))) else (none)) else (none)) else ((impl_Entry.f l0 bt573.1 (([(⟨a1_0, a1_1, a1_2, a1_3⟩ : S35)] : List (S35)))).bind fun bt584 => (some bt584.1)))
def impl_kept.T4 : Bool × List (List Nat × List Nat) := (true, [([], []), ([], []), ([], []), ([], []), ([2, 3], [2, 3]), ([4], [4]), ([], []), ([5, 6], [5, 6]), ([0, 1, 0, 1, 2, 3, 4, 5, 6, 7], [0, 1]), ([8, 7, 7, 0, 1, 2, 3, 4, 5, 6, 7], [7, 8])])
def impl_kept.B4 : List Nat := [0, 0, 0, 0, 12, 28, 0, 124, 255, 511]
theorem impl_kept.tab4 : rtab .any (opsOf Try.f64 4) = impl_kept.T4 := by kernel_rfl
theorem impl_kept.bits4 : waitsOk impl_kept.T4.2 impl_kept.B4 = true := by kernel_rfl
set_option maxHeartbeats 8000000 in
set_option maxRecDepth 100000 in
theorem impl_kept.calls (P0_ : Nat → Prop) (u9000_ : Value) (l0 : List (S35)) (a1_0 : Int) (a1_1 : Int) (a1_2 : Bool) (a1_3 : ByteArray) (r : List (S35)) (w0 w : World) (hB : Below w0.heap.size w0 w) (ho0 : Kd.R k35 35 w w0.heap.size P0_ u9000_ l0) (h : impl_kept.f l0 a1_0 a1_1 a1_2 a1_3 = some r) :
  Calls Try.prog 64 #[u9000_, .agg #[.int .i64 a1_0, .int .i64 a1_1, .bool a1_2, .string a1_3]] w fun e w' => ∃ v0_ : Value, e = .returned (v0_) ∧ Kd.R k35 35 w' w0.heap.size (fun k_ => (P0_ k_ ∨ w.heap.size ≤ k_)) v0_ r ∧ Below w0.heap.size w0 w' ∧ Kept w w' (fun k_ => P0_ k_) := by
 have hu35 := Try.underlying35
 have HO0 := Aside0.mk (show Kd.R k35 35 w w0.heap.size (fun k_ => (P0_ k_ ∨ w.heap.size ≤ k_)) u9000_ l0 from Kd.R_mono ho0 (fun k_ hk => (.inl hk)))
 have HK := Aside0.mk (Kept.refl w (fun k_ => P0_ k_))
 have HW0 := Aside0.mk hB.size
 have HB := Aside0.mk hB
 clear hB
 have H : ((impl_placeIn.f l0 a1_0).bind fun bt573 => (if bt573.2 = true then (if 0 ≤ bt573.1 then (if bt573.1 < (l0.length : Int) then ((impl_Better.f ((rd_T35 l0 bt573.1).f0) ((rd_T35 l0 bt573.1).f1) ((rd_T35 l0 bt573.1).f2) ((rd_T35 l0 bt573.1).f3) a1_0 a1_1 a1_2 a1_3).bind fun bt576 => (some (l0.set (bt573.1 : Int).toNat (⟨bt576.1, bt576.2.1, bt576.2.2.1, bt576.2.2.2⟩ : S35)))) else (none)) else (none)) else ((impl_Entry.f l0 bt573.1 (([(⟨a1_0, a1_1, a1_2, a1_3⟩ : S35)] : List (S35)))).bind fun bt584 => (some bt584.1)))) = some r := h
 clear h
 replace H := Option.bind_eq_some_iff.mp H
 obtain ⟨⟨t573, t574⟩, A30, H⟩ := H
 replace H : (if t574 = true then (if 0 ≤ t573 then (if t573 < (l0.length : Int) then ((impl_Better.f ((rd_T35 l0 t573).f0) ((rd_T35 l0 t573).f1) ((rd_T35 l0 t573).f2) ((rd_T35 l0 t573).f3) a1_0 a1_1 a1_2 a1_3).bind fun bt576 => (some (l0.set (t573 : Int).toNat (⟨bt576.1, bt576.2.1, bt576.2.2.1, bt576.2.2.2⟩ : S35)))) else (none)) else (none)) else ((impl_Entry.f l0 t573 (([(⟨a1_0, a1_1, a1_2, a1_3⟩ : S35)] : List (S35)))).bind fun bt584 => (some bt584.1))) = some r := H
 have A3 := Aside0.mk A30
 clear A30
 by_cases c4 : t574 = true
 ·subst c4
  have H1 : (if 0 ≤ t573 then (if t573 < (l0.length : Int) then ((impl_Better.f ((rd_T35 l0 t573).f0) ((rd_T35 l0 t573).f1) ((rd_T35 l0 t573).f2) ((rd_T35 l0 t573).f3) a1_0 a1_1 a1_2 a1_3).bind fun bt576 => (some (l0.set (t573 : Int).toNat (⟨bt576.1, bt576.2.1, bt576.2.2.1, bt576.2.2.2⟩ : S35)))) else (none)) else (none)) = some r := by rw [if_pos rfl] at H; exact H
  clear H
  have H := H1
  clear H1
  by_cases c5 : 0 ≤ t573
  ·rw [if_pos c5] at H
   have c5b0 : decide (0 ≤ t573) = true := decide_eq_true c5
   clear c5
   by_cases c6 : t573 < (l0.length : Int)
   ·rw [if_pos c6] at H
    have c6b0 : decide (t573 < (l0.length : Int)) = true := decide_eq_true c6
    clear c6
    replace H := Option.bind_eq_some_iff.mp H
    obtain ⟨⟨t576, t577, t578, t579⟩, A70, H⟩ := H
    replace H : (some (l0.set (t573 : Int).toNat (⟨t576, t577, t578, t579⟩ : S35))) = some r := H
    have A7 := Aside0.mk A70
    clear A70
    obtain ⟨y580, hy580⟩ : ∃ y_ : List (S35), y_ = (l0.set (t573 : Int).toNat (⟨t576, t577, t578, t579⟩ : S35)) := ⟨_, rfl⟩
    replace H : (some y580) = some r := by first | (rw [hy580]; with_reducible exact H) | (have H2_ := (Option.bind_some _ _).symm.trans H; rw [hy580]; with_reducible exact H2_) | (have H2_ := (Option.bind_some _ _).symm.trans H; with_reducible exact H2_) | with_reducible exact H | (rw [hy580]; exact H) | exact H
    have Ny580 := Aside0.mk hy580
    clear hy580
    obtain rfl := Option.some.inj H
    go_enter Try.func64, Try.ntmps64
    try go_wp2_with (first | ((with_reducible refine gate_dst (N := 3) rfl ?_); refine BE 3 #[.int .i64 a1_0, .int .i64 a1_1, .bool a1_2, .string a1_3] 35 ?_; intro gb572 hg w9 hbox hb; have h_ := P6 (Kd.R_below (Kd.R_elderB (KR HO0.out) gb572 (Nat.le_of_eq hg.symm)) hb) (Kept.below (S := (fun k_ => P0_ k_)) KH hb) (below_step KB hb) hbox (by rw [hg]; exact (by first | exact HK.out.1 | exact (show Kept w _ (fun k_ => P0_ k_) from KH).1) : w.heap.size ≤ gb572) (by rw [hg]; exact (below_size KB) : w0.heap.size ≤ gb572); clear HO0 HK HB; obtain ⟨HO0, HK, HB, BK572, GW572, GE572⟩ := h_; clear hb hbox hg; obtain ⟨hcz10_0, hcz10_1, hcz10_2, hcz10_3, hfz10_0, hfz10_1, hfz10_2, hfz10_3⟩ := C4 BK572.out; obtain ⟨Ao11, co11, eo11⟩ := Kd.R_slice HO0.out; subst eo11) | ((with_reducible refine gate_callee (f := 59) rfl ?_); refine goesL_ (some 11) rfl rfl Try.func59 (by kernel_rfl) rfl #[.slice Ao11 l0.length co11, .int .i64 a1_0] rfl KL ?_; (with_reducible refine (impl_placeIn.calls _ _ l0 a1_0 t573 true _ ?side1 ?side2 A3.out).mono ?_); (case side1 => repeat (first | exact (Kd.R_reads' HO0.out).2.2 | (with_reducible refine Kd.C_alloc ?_ _) | (with_reducible refine Kd.C_drewN ?_ _) | (with_reducible refine Kd.C_drew ?_))); (case side2 => exact (Kd.R_reads' HO0.out).2.1); rintro e w12 ⟨rfl, hb⟩; refine ⟨_, rfl, ?_⟩; have h_ := P4 (Kd.R_below (KR HO0.out) hb) (BL BK572.out hb) (Kept.below (S := (fun k_ => P0_ k_)) (by repeat (first | (with_reducible first | exact HK.out | apply Kept.alloc | apply Kept.drewN | apply Kept.drew | refine Kept.setCell ?_ (.inr GW572.out) _) | exact HK.out)) hb) (below_step (KBh HB.out) hb); clear HO0 BK572 HK HB; obtain ⟨HO0, BK572, HK, HB⟩ := h_; (try clear hb); (try clear hk); (try clear hi)))
    have h_ := P4 (Kd.R_drew HO0.out) (blk_drew BK572.out) (Kept.drew HK.out) (below_drew1 HB.out)
    clear HO0 BK572 HK HB
    obtain ⟨HO0, BK572, HK, HB⟩ := h_
    have p575 : 0 ≤ (t573 : Int) := of_decide_eq_true (by first | (with_reducible assumption) | assumption)
    have q575 : t573 < (l0.length : Int) := of_decide_eq_true (by first | (with_reducible assumption) | assumption)
    obtain ⟨ad575, e575, hx575_0, hx575_1, hx575_2, hx575_3⟩ := at_T35 (Kd.R_reads' HO0.out).2.2 t573 p575 q575
    cases e575
    replace p575 := eq_true p575
    replace q575 := eq_true q575
    refine start_ (n := 10) (S := fun w' => w'.cell? ⟨gb572, 0, none⟩ = some (.int .i64 a1_0) ∧ w'.cell? ⟨gb572, 1, none⟩ = some (.int .i64 a1_1) ∧ w'.cell? ⟨gb572, 2, none⟩ = some (.bool a1_2) ∧ w'.cell? ⟨gb572, 3, none⟩ = some (.string a1_3) ∧ w'.cell? (ad575.add ((t573).toNat * 4)) = some (.int .i64 ((rd_T35 l0 t573).f0)) ∧ w'.cell? ⟨(ad575.add ((t573).toNat * 4)).block, (ad575.add ((t573).toNat * 4)).off + 1, none⟩ = some (.int .i64 ((rd_T35 l0 t573).f1)) ∧ w'.cell? ⟨(ad575.add ((t573).toNat * 4)).block, (ad575.add ((t573).toNat * 4)).off + 2, none⟩ = some (.bool ((rd_T35 l0 t573).f2)) ∧ w'.cell? ⟨(ad575.add ((t573).toNat * 4)).block, (ad575.add ((t573).toNat * 4)).off + 3, none⟩ = some (.string ((rd_T35 l0 t573).f3))) (ds := [9]) #[false, false, false, false, false, false, false, false, false, false] (by kernel_rfl) rfl rfl ⟨(blk_cell BK572.out 0).trans rfl, (blk_cell BK572.out 1).trans rfl, (blk_cell BK572.out 2).trans rfl, (blk_cell BK572.out 3).trans rfl, hx575_0, hx575_1, hx575_2, hx575_3⟩ (fun hHeld => ?_); refine with_tabW impl_kept.tab4 impl_kept.bits4 (fun HT_ HW_ => ?_)
    generalize w12.drew = w13 at HO0 BK572 HK HB hx575_0 hx575_1 hx575_2 hx575_3 hHeld ⊢
    refine pure_ (i := 0) (N := some 21) (v := ?_) (a' := ?_) #[true, false, false, false, false, false, false, false, false, false] rfl rfl (any_of HT_.out (by kernel_rfl)) (fun _ _ _ h => h) (Or.inl ⟨by rfl, ?_⟩) ?_ ?_
    rotate_left
    ·intro w'
     go_simp
     with_reducible rfl
    rotate_left
    ·exact KA
    refine pure_ (i := 1) (N := some 22) (v := ?_) (a' := ?_) #[true, true, false, false, false, false, false, false, false, false] rfl rfl (any_of HT_.out (by kernel_rfl)) (fun _ _ _ h => h) (Or.inl ⟨by rfl, ?_⟩) ?_ ?_
    rotate_left
    ·intro w'
     go_simp
     with_reducible rfl
    rotate_left
    ·exact KA
    refine pure_ (i := 2) (N := some 23) (v := ?_) (a' := ?_) #[true, true, true, false, false, false, false, false, false, false] rfl rfl (any_of HT_.out (by kernel_rfl)) (fun _ _ _ h => h) (Or.inl ⟨by rfl, ?_⟩) ?_ ?_
    rotate_left
    ·intro w'
     go_simp
     with_reducible rfl
    rotate_left
    ·exact KA
    refine pure_ (i := 3) (N := some 24) (v := ?_) (a' := ?_) #[true, true, true, true, false, false, false, false, false, false] rfl rfl (any_of HT_.out (by kernel_rfl)) (fun _ _ _ h => h) (Or.inl ⟨by rfl, ?_⟩) ?_ ?_
    rotate_left
    ·intro w'
     go_simp
     with_reducible rfl
    rotate_left
    ·exact KA
    refine pure_ (i := 4) (N := some 25) (v := ?_) (a' := ?_) #[true, true, true, true, true, false, false, false, false, false] rfl rfl (any_of HT_.out (by kernel_rfl)) (fun _ _ _ h => h) (Or.inl ⟨by rfl, ?_⟩) ?_ ?_
    rotate_left
    ·intro w'
     go_simp
     with_reducible rfl
    rotate_left
    ·exact KA
    refine take_ (i := 5) (N := some 26) (v := ?_) (a' := ?_) #[true, true, true, true, true, true, false, false, false, false] rfl rfl (take_ofW HT_.out HW_.out (by kernel_rfl)) (fun _ _ _ h => h) (Or.inl ⟨by rfl, ?_⟩) hHeld ?_ ?_
    rotate_left
    ·rintro w' ⟨s0, s1, s2, s3, s4, s5, s6, s7⟩
     go_simp
     with_reducible rfl
    rotate_left
    ·exact KA
    refine take_ (i := 6) (N := some 27) (v := ?_) (a' := ?_) #[true, true, true, true, true, true, true, false, false, false] rfl rfl (take_ofW HT_.out HW_.out (by kernel_rfl)) (fun _ _ _ h => h) (Or.inl ⟨by rfl, ?_⟩) hHeld ?_ ?_
    rotate_left
    ·rintro w' ⟨s0, s1, s2, s3, s4, s5, s6, s7⟩
     go_simp
     with_reducible rfl
    rotate_left
    ·exact KA
    refine one_ (i := 7) (N := some 28) #[true, true, true, true, true, true, true, true, false, false] rfl rfl (one_of HT_.out (by kernel_rfl)) (by decide) (fun K hK => ?_)
    refine goes_ Try.func89 (by kernel_rfl) rfl #[.agg #[.int .i64 ((rd_T35 l0 t573).f0), .int .i64 ((rd_T35 l0 t573).f1), .bool ((rd_T35 l0 t573).f2), .string ((rd_T35 l0 t573).f3)], .agg #[.int .i64 a1_0, .int .i64 a1_1, .bool a1_2, .string a1_3]] (by rfl) rfl rfl KL ?_
    with_reducible refine (impl_Better.calls ((rd_T35 l0 t573).f0) ((rd_T35 l0 t573).f1) ((rd_T35 l0 t573).f2) ((rd_T35 l0 t573).f3) a1_0 a1_1 a1_2 a1_3 t576 t577 t578 t579 _ A7.out).mono ?_
    rintro e w14 ⟨rfl, hb⟩
    have HS4_ := (hb.cell (World.block_lt_of_cell? _ _ (hHeld.2.2.2.2.1))).trans (hHeld.2.2.2.2.1)
    have HS5_ := (hb.cell (World.block_lt_of_cell? _ _ (hHeld.2.2.2.2.2.1))).trans (hHeld.2.2.2.2.2.1)
    have HS6_ := (hb.cell (World.block_lt_of_cell? _ _ (hHeld.2.2.2.2.2.2.1))).trans (hHeld.2.2.2.2.2.2.1)
    have HS7_ := (hb.cell (World.block_lt_of_cell? _ _ (hHeld.2.2.2.2.2.2.2))).trans (hHeld.2.2.2.2.2.2.2)
    refine ⟨_, rfl, ?_⟩
    have h_ := P4 (Kd.R_below (KR HO0.out) hb) (BL BK572.out hb) (Kept.below (S := (fun k_ => P0_ k_)) (by repeat (first | (with_reducible first | exact HK.out | apply Kept.alloc | apply Kept.drewN | apply Kept.drew | refine Kept.setCell ?_ (.inr GW572.out) _) | exact HK.out)) hb) (below_step (KBh HB.out) hb)
    clear HO0 BK572 HK HB
    obtain ⟨HO0, BK572, HK, HB⟩ := h_
    (try clear hb); (try clear hk); (try clear hi)
    have p8 : 0 ≤ (t573 : Int) := of_decide_eq_true (by first | (with_reducible assumption) | assumption)
    have q8 : (t573 : Int) < ((l0.length : Int) : Int) := of_decide_eq_true (by first | (with_reducible assumption) | assumption)
    obtain ⟨go8, co8, eo8, gb8, gl8, cl8, HG8⟩ := Kd.R_form HO0.out (by omega)
    (first | cases eo8 | (injection eo8 with ea_ en_ ec_; (first | subst ea_ | (injection ea_ with ea_; subst ea_)); subst ec_; clear en_))
    have GB8 := Aside0.mk gb8
    have GG8 := Aside0.mk HG8
    clear gb8 gl8 HG8
    have HMgo8 := Aside0.mk (show (P0_ go8 ∨ w.heap.size ≤ go8) from (HO0.out.1 _ rfl).1)
    (first | simp only [add_plain] at hx575_0 | skip)
    (first | simp only [add_plain] at hx575_1 | skip)
    (first | simp only [add_plain] at hx575_2 | skip)
    (first | simp only [add_plain] at hx575_3 | skip)
    obtain ⟨ce8, hcl8, hM8, hcc8, hfr8⟩ := Kd.R_elem HO0.out z35 (t573 : Int) p8 q8
    obtain rfl := k35_openM hM8
    have hx8_0 : World.cell? _ ⟨go8, (t573 : Int).toNat * 4, none⟩ = some (.int .i64 ((rd_T35 l0 t573).f0)) := hcc8 0 _ rfl
    have hx8_1 : World.cell? _ ⟨go8, (t573 : Int).toNat * 4 + 1, none⟩ = some (.int .i64 ((rd_T35 l0 t573).f1)) := hcc8 1 _ rfl
    have hx8_2 : World.cell? _ ⟨go8, (t573 : Int).toNat * 4 + 2, none⟩ = some (.bool ((rd_T35 l0 t573).f2)) := hcc8 2 _ rfl
    have hx8_3 : World.cell? _ ⟨go8, (t573 : Int).toNat * 4 + 3, none⟩ = some (.string ((rd_T35 l0 t573).f3)) := hcc8 3 _ rfl
    have hf8_0 : World.frozen? _ ⟨go8, (t573 : Int).toNat * 4, none⟩ = false := hfr8 0
    have hf8_1 : World.frozen? _ ⟨go8, (t573 : Int).toNat * 4 + 1, none⟩ = false := hfr8 1
    have hf8_2 : World.frozen? _ ⟨go8, (t573 : Int).toNat * 4 + 2, none⟩ = false := hfr8 2
    have hf8_3 : World.frozen? _ ⟨go8, (t573 : Int).toNat * 4 + 3, none⟩ = false := hfr8 3
    clear hcl8 hcc8 hfr8 hM8
    replace p8 := eq_true p8
    replace q8 := eq_true q8
    obtain ⟨ce15, hcl15, hM15, hcc15, hfr15⟩ := Kd.R_elem HO0.out z35 (t573 : Int) (of_decide_eq_true (by first | (with_reducible assumption) | assumption)) (by have h_ : (t573 : Int) < ((l0.length : Int) : Int) := of_decide_eq_true (by first | (with_reducible assumption) | assumption); first | exact h_ | (have e_ := (Kd.R_reads' HO0.out).1; omega) | simpa using h_)
    obtain rfl := k35_openM hM15
    have HP15 := (Kd.R_seg HO0.out (t573 : Int) (of_decide_eq_true (by first | (with_reducible assumption) | assumption)) (by have h_ : (t573 : Int) < ((l0.length : Int) : Int) := of_decide_eq_true (by first | (with_reducible assumption) | assumption); first | exact h_ | (have e_ := (Kd.R_reads' HO0.out).1; omega) | simpa using h_) (seg := [.int .i64 t576, .int .i64 t577, .bool t578, .string t579]) (j := 0) hcl15 hcc15 (show 4 ≤ 4 from by decide) (x' := (⟨t576, t577, t578, t579⟩ : S35)) (k35_mkM _ _ _ (⟨t576, t577, t578, t579⟩ : S35) ) (fun _ hk => hk)).1
    rw [← Ny580.out] at HP15
    have HQ15 := Aside0.mk HP15
    clear hcl15 hcc15 hfr15 hM15 HP15
    refine hK.out _ _ ⟨(blk_cell BK572.out 0).trans rfl, (blk_cell BK572.out 1).trans rfl, (blk_cell BK572.out 2).trans rfl, (blk_cell BK572.out 3).trans rfl, HS4_, HS5_, HS6_, HS7_⟩ (fun hHeld => ?_)
    clear hK K
    refine norm_ (a' := ?_) ?_ ?_
    rotate_left
    ·show Act.put _ (some 28) _ = _; exact KA
    refine pure_ (i := 8) (N := some 29) (v := ?_) (a' := ?_) #[true, true, true, true, true, true, true, true, true, false] rfl rfl (any_of HT_.out (by kernel_rfl)) (fun _ _ _ h => h) (Or.inl ⟨by rfl, ?_⟩) ?_ ?_
    rotate_left
    ·intro w'
     go_simp
     with_reducible rfl
    rotate_left
    ·exact KA
    refine last_ (i := 9) (N := none) #[true, true, true, true, true, true, true, true, true, true] rfl rfl (one_of HT_.out (by kernel_rfl)) (by decide) (fun K hK => ?_)
    refine skip_ (w1 := ?_) (by rfl) rfl ?_ ?_
    rotate_left
    ·go_simp
     rfl
    refine hK.out _ _ ?_
    clear hK K
    refine done_ (done_of HT_.out (by kernel_rfl)) ?_
    try go_wp2
    go_ret
    exact ⟨_, KE, by (with_reducible repeat (first | apply Kd.R_alloc | apply Kd.R_drewN | apply Kd.R_drew)); exact Kd.R_mono HQ15.out (fun _ hk => hk.1), KBh HB.out, by repeat (first | (with_reducible first | exact HK.out | apply Kept.alloc | apply Kept.drewN | apply Kept.drew | refine Kept.setCell ?_ HMgo8.out _ | refine Kept.setCell ?_ HMgo8.out _ | refine Kept.setCell ?_ HMgo8.out _ | refine Kept.setCell ?_ HMgo8.out _ | refine Kept.setCell ?_ (.inr GW572.out) _) | exact HK.out)⟩
   ·rw [if_neg c6] at H
    exact absurd H (by simp)
  ·rw [if_neg c5] at H
   exact absurd H (by simp)
 ·replace c4 := Bool.eq_false_iff.mpr c4
  subst c4
  have H1 : ((impl_Entry.f l0 t573 (([(⟨a1_0, a1_1, a1_2, a1_3⟩ : S35)] : List (S35)))).bind fun bt584 => (some bt584.1)) = some r := by rw [if_neg (show ¬ (false = true) by decide)] at H; exact H
  clear H
  have H := H1
  clear H1
  obtain ⟨y581, hy581⟩ : ∃ y_ : List (S35), y_ = (([(⟨a1_0, a1_1, a1_2, a1_3⟩ : S35)] : List (S35))) := ⟨_, rfl⟩
  replace H : ((impl_Entry.f l0 t573 y581).bind fun bt584 => (some bt584.1)) = some r := by first | (rw [hy581]; with_reducible exact H) | (have H2_ := (Option.bind_some _ _).symm.trans H; rw [hy581]; with_reducible exact H2_) | (have H2_ := (Option.bind_some _ _).symm.trans H; with_reducible exact H2_) | with_reducible exact H | (rw [hy581]; exact H) | exact H
  have Ny581 := Aside0.mk hy581
  clear hy581
  replace H := Option.bind_eq_some_iff.mp H
  obtain ⟨⟨t584, t587⟩, A160, H⟩ := H
  replace H : (some t584) = some r := H
  have A16 := Aside0.mk A160
  clear A160
  obtain rfl := Option.some.inj H
  go_enter Try.func64, Try.ntmps64
  go_wp2_with (first | ((with_reducible refine gate_dst (N := 3) rfl ?_); refine BE 3 #[.int .i64 a1_0, .int .i64 a1_1, .bool a1_2, .string a1_3] 35 ?_; intro gb572 hg w17 hbox hb; have h_ := P6 (Kd.R_below (Kd.R_elderB (KR HO0.out) gb572 (Nat.le_of_eq hg.symm)) hb) (Kept.below (S := (fun k_ => P0_ k_)) KH hb) (below_step KB hb) hbox (by rw [hg]; exact (by first | exact HK.out.1 | exact (show Kept w _ (fun k_ => P0_ k_) from KH).1) : w.heap.size ≤ gb572) (by rw [hg]; exact (below_size KB) : w0.heap.size ≤ gb572); clear HO0 HK HB; obtain ⟨HO0, HK, HB, BK572, GW572, GE572⟩ := h_; clear hb hbox hg; obtain ⟨hcz18_0, hcz18_1, hcz18_2, hcz18_3, hfz18_0, hfz18_1, hfz18_2, hfz18_3⟩ := C4 BK572.out; obtain ⟨Ao19, co19, eo19⟩ := Kd.R_slice HO0.out; subst eo19) | ((with_reducible refine gate_callee (f := 59) rfl ?_); refine goesL_ (some 11) rfl rfl Try.func59 (by kernel_rfl) rfl #[.slice Ao19 l0.length co19, .int .i64 a1_0] rfl KL ?_; (with_reducible refine (impl_placeIn.calls _ _ l0 a1_0 t573 false _ ?side1 ?side2 A3.out).mono ?_); (case side1 => repeat (first | exact (Kd.R_reads' HO0.out).2.2 | (with_reducible refine Kd.C_alloc ?_ _) | (with_reducible refine Kd.C_drewN ?_ _) | (with_reducible refine Kd.C_drew ?_))); (case side2 => exact (Kd.R_reads' HO0.out).2.1); rintro e w20 ⟨rfl, hb⟩; refine ⟨_, rfl, ?_⟩; have h_ := P4 (Kd.R_below (KR HO0.out) hb) (BL BK572.out hb) (Kept.below (S := (fun k_ => P0_ k_)) (by repeat (first | (with_reducible first | exact HK.out | apply Kept.alloc | apply Kept.drewN | apply Kept.drew | refine Kept.setCell ?_ (.inr GW572.out) _) | exact HK.out)) hb) (below_step (KBh HB.out) hb); clear HO0 BK572 HK HB; obtain ⟨HO0, BK572, HK, HB⟩ := h_; (try clear hb); (try clear hk); (try clear hi); obtain ⟨hcz21_0, hcz21_1, hcz21_2, hcz21_3, hfz21_0, hfz21_1, hfz21_2, hfz21_3⟩ := C4 BK572.out) | ((with_reducible refine gate_dst (N := 19) rfl ?_); refine Kd.R_lit k35 _ 35 ?hg (N := 19) ?hd (xs := ([(⟨a1_0, a1_1, a1_2, a1_3⟩ : S35)] : List (S35))) (inner := [.int .i64 a1_0, .int .i64 a1_1, .bool a1_2, .string a1_3]) (ok := fun _ => True) (okp := fun _ => True) ?hr ?hp (fun _ hk => hk) trivial (Below.refl _ _) (Nat.le_refl _) (by simp) ?_; (case hd => rfl); (case hg => rfl); (case hr => first | (go_simp; done) | (go_simp; rfl)); (case hp => exact (Reps.c4 (show Kd.M k35 _ _ _ (⟨a1_0, a1_1, a1_2, a1_3⟩ : S35) [.int .i64 a1_0, .int .i64 a1_1, .bool a1_2, .string a1_3] from (k35_mkM _ _ _ (⟨a1_0, a1_1, a1_2, a1_3⟩ : S35) )) (Reps.none _ _))); intro v582 w22 ho23 hb hg_ hnew_; clear hg_ hnew_; (first | rw [← Ny581.out] at ho23 | (simp only [Int.reduceToNat] at ho23; rw [← Ny581.out] at ho23)); have h_ := P5 (Kd.R_elder' (KR HO0.out) (Kd.R_base ho23) hb) (Kd.R_lower (Kd.R_newB (Kd.R_new' (Kd.R_newM (M := fun k_ => (P0_ k_ ∨ w.heap.size ≤ k_)) ho23 (by first | exact HK.out.1 | exact (show Kept w _ (fun k_ => P0_ k_) from by repeat (first | (with_reducible first | exact HK.out | apply Kept.alloc | apply Kept.drewN | apply Kept.drew | refine Kept.setCell ?_ (.inr GW572.out) _) | exact HK.out)).1) (fun k_ h_ => .inr h_)) (Kd.R_lt (KR HO0.out))) (g := gb572) (o := .cells #[.int .i64 a1_0, .int .i64 a1_1, .bool a1_2, .string a1_3] 35 (0, 0)) KK) (below_size (KBh HB.out))) (BL BK572.out hb) (Kept.below (S := (fun k_ => P0_ k_)) (by repeat (first | (with_reducible first | exact HK.out | apply Kept.alloc | apply Kept.drewN | apply Kept.drew | refine Kept.setCell ?_ (.inr GW572.out) _) | exact HK.out)) hb) (below_step (KBh HB.out) hb); clear HO0 BK572 HK HB; obtain ⟨HO0, HO583, BK572, HK, HB⟩ := h_; clear hb ho23; obtain ⟨Ao24, co24, eo24⟩ := Kd.R_slice HO583.out; subst eo24) | ((with_reducible refine gate_callee (f := 88) rfl ?_); refine goesL_ (some 20) rfl rfl Try.func88 (by kernel_rfl) rfl #[.slice Ao19 l0.length co19, .int .i64 t573, .slice Ao24 y581.length co24] rfl KL ?_; (with_reducible refine (impl_Entry.calls (fun k_ => some k_ = (.slice Ao19 l0.length co19 : Value).ownBlock) (.slice Ao19 l0.length co19) l0 t573 (fun k_ => some k_ = (.slice Ao24 y581.length co24 : Value).ownBlock) (.slice Ao24 y581.length co24) y581 t584 t587 w0 _ ?side1 ?side2 ?side3 ?side4 ?side5 A16.out).mono ?_); (case side1 => exact KBh HB.out); (case side2 => exact Kd.R_tight rfl HO0.out); (case side3 => exact fun k_ e_ => (HO0.out.1 k_ e_.symm).2); (case side4 => exact Kd.R_tight rfl HO583.out); (case side5 => exact fun k_ e_ => (HO583.out.1 k_ e_.symm).1.2); rintro e w25 ⟨v585, rfl, ho0, hy0, hb, hkp⟩; refine ⟨_, rfl, ?_⟩; have h_ := P5 (blk_kept KK hkp (fun hs_ => Or.elim hs_ (fun e_ => (fun e_ => (Kd.R_away HO0.out (fun _ hk => hk.1.2)) e_) e_) (fun e_ => (fun e_ => (Kd.R_away HO583.out (fun _ hk => hk.2)) e_) e_))) (Kd.R_reok rfl hy0 (fun k_ e_ => HO583.out.1 k_ e_)) (Kd.R_mono (ok' := fun k_ => (P0_ k_ ∨ w.heap.size ≤ k_) ∧ some k_ ≠ (.slice Ao24 y581.length co24 : Value).ownBlock ∧ k_ ≠ gb572) ho0 (fun k_ hk_ => ⟨Or.elim hk_.1 (fun hs_ => Or.elim hs_ (fun hs_ => (HO0.out.1 k_ (hs_).symm).1.1) (fun hs_ => (HO583.out.1 k_ (hs_).symm).1.1.1)) (fun hn_ => (.inr (Nat.le_trans (by first | exact HK.out.1 | exact (show Kept w _ (fun k_ => P0_ k_) from by repeat (first | (with_reducible first | exact HK.out | apply Kept.alloc | apply Kept.drewN | apply Kept.drew | refine Kept.setCell ?_ (.inr GW572.out) _) | exact HK.out)).1) hn_))), hk_.2, Or.elim hk_.1 (fun hs_ => Or.elim hs_ (fun hs_ => fun e_ => (Kd.R_away HO0.out (fun _ hk => hk.1.2)) (by rw [← e_]; exact hs_)) (fun hs_ => fun e_ => (Kd.R_away HO583.out (fun _ hk => hk.2)) (by rw [← e_]; exact hs_))) (fun hn_ => (Kd.freshB (g := gb572) (o := .cells #[.int .i64 a1_0, .int .i64 a1_1, .bool a1_2, .string a1_3] 35 (0, 0)) KK k_ hn_))⟩)) (Kept.then_ (S := (fun k_ => P0_ k_)) (by repeat (first | (with_reducible first | exact HK.out | apply Kept.alloc | apply Kept.drewN | apply Kept.drew | refine Kept.setCell ?_ (.inr GW572.out) _) | exact HK.out)) hkp (fun k_ hs_ => Or.elim hs_ (fun e_ => (fun e_ => (HO0.out.1 k_ e_.symm).1.1) e_) (fun e_ => (fun e_ => (HO583.out.1 k_ e_.symm).1.1.1) e_))) hb; clear BK572 HO583 HK HB HO0; obtain ⟨BK572, HO583, HO586, HK, HB⟩ := h_; (try clear hb); (try clear hkp); (try clear ho0); (try clear hy0)))
  go_ret
  exact ⟨_, KE, by (with_reducible repeat (first | apply Kd.R_alloc | apply Kd.R_drewN | apply Kd.R_drew)); exact Kd.R_mono HO586.out (fun _ hk => hk.1), KBh HB.out, by repeat (first | (with_reducible first | exact HK.out | apply Kept.alloc | apply Kept.drewN | apply Kept.drew | refine Kept.setCell ?_ (.inr GW572.out) _) | exact HK.out)⟩

/-! ### impl_StoreCrash: function 29 -/
mutual
def impl_StoreCrash.j0 : Nat → Int → Bool → List (S35) → List (S35) → Int → Option ((List (S35)) × (List (S35)) × Int × Bool)
 | 0, _, _, _, _, _ => none
 | k + 1, x1, x16, x589000, x589001, x589002 => if x16 = true then ((impl_storeAsWas.f k x589000 x589001 x589002).bind fun bt592 => (some (bt592.1, bt592.2.1, bt592.2.2, false))) else ((impl_copyStore.f x589000 x589001 x589002).bind fun bt599 => (impl_StoreCrash.l0 k x1 x589001 (x589001.length : Int) 0 x589000 x589001 x589002 bt599.1 bt599.2.2))
def impl_StoreCrash.l0 : Nat → Int → List (S35) → Int → Int → List (S35) → List (S35) → Int → List (S35) → Int → Option ((List (S35)) × (List (S35)) × Int × Bool)
 | 0, _, _, _, _, _, _, _, _, _ => none
 | k + 1, x1, x23, x24, x25, x589000, x589001, x589002, x607000, x607002 => if x25 < x24 then (if 0 ≤ x25 then (if x25 < (x23.length : Int) then (if (Go.bits .and .i64 (shr .i64 x1 x25) 1) = 1 then ((impl_kept.f x607000 ((rd_T35 x23 x25).f0) ((rd_T35 x23 x25).f1) ((rd_T35 x23 x25).f2) ((rd_T35 x23 x25).f3)).bind fun t609 => (impl_StoreCrash.l0 k x1 x23 x24 (wrap64 (x25 + 1)) x589000 x589001 x589002 t609 x607002)) else (impl_StoreCrash.l0 k x1 x23 x24 (wrap64 (x25 + 1)) x589000 x589001 x589002 x607000 x607002)) else (none)) else (none)) else (if (x607000.length : Int) > 200 then ((impl_copyStore.f x589000 x589001 x589002).bind fun bt612 => (some (bt612.1, bt612.2.1, bt612.2.2, false))) else (some (x607000, ([] : List (S35)), x607002, true)))
end
def impl_StoreCrash.f (k : Nat) (l0_0 : List (S35)) (l0_1 : List (S35)) (a0_2 : Int) (a1 : Int) : Option ((List (S35)) × (List (S35)) × Int × Bool) := (impl_StoreOk.f k l0_0 l0_1 a0_2).bind fun t590 => (if t590 = true then ((impl_within.f a1 0 1048575).bind fun t591 => (impl_StoreCrash.j0 k a1 (!t591) l0_0 l0_1 a0_2)) else (impl_StoreCrash.j0 k a1 true l0_0 l0_1 a0_2))
theorem impl_StoreCrash.mono_l : ∀ k, (∀ y0 y1 y2 y3 y4, LeO (impl_StoreCrash.j0 k y0 y1 y2 y3 y4) (impl_StoreCrash.j0 (k + 1) y0 y1 y2 y3 y4)) ∧ (∀ y0 y1 y2 y3 y4 y5 y6 y7 y8, LeO (impl_StoreCrash.l0 k y0 y1 y2 y3 y4 y5 y6 y7 y8) (impl_StoreCrash.l0 (k + 1) y0 y1 y2 y3 y4 y5 y6 y7 y8))
 | 0 => ⟨fun _ _ _ _ _ r h => by simp [impl_StoreCrash.j0] at h, fun _ _ _ _ _ _ _ _ _ r h => by simp [impl_StoreCrash.l0] at h⟩
 | k + 1 => by
  obtain ⟨ih0, ih1⟩ := impl_StoreCrash.mono_l k
  refine ⟨?_, ?_⟩
  ·intro y0 y1 y2 y3 y4
   unfold impl_StoreCrash.j0
   repeat' first
   | (with_reducible exact ih0 _ _ _ _ _)
   | (with_reducible exact ih1 _ _ _ _ _ _ _ _ _)
   | (with_reducible exact impl_StoreOk.mono _ _ _ _)
   | (with_reducible exact impl_storeAsWas.mono _ _ _ _)
   | (with_reducible exact LeO.refl _)
   | (with_reducible exact LeO.none _)
   | (with_reducible refine LeO.ite ?_ ?_)
   | (with_reducible refine LeO.bind ?_ (fun _ => ?_))
   | exact ih0 _ _ _ _ _
   | exact ih1 _ _ _ _ _ _ _ _ _
   | exact impl_StoreOk.mono _ _ _ _
   | exact impl_storeAsWas.mono _ _ _ _
   | exact LeO.none _
   | refine LeO.ite ?_ ?_
   | refine LeO.bind ?_ (fun _ => ?_)
  ·intro y0 y1 y2 y3 y4 y5 y6 y7 y8
   unfold impl_StoreCrash.l0
   repeat' first
   | (with_reducible exact ih0 _ _ _ _ _)
   | (with_reducible exact ih1 _ _ _ _ _ _ _ _ _)
   | (with_reducible exact impl_StoreOk.mono _ _ _ _)
   | (with_reducible exact impl_storeAsWas.mono _ _ _ _)
   | (with_reducible exact LeO.refl _)
   | (with_reducible exact LeO.none _)
   | (with_reducible refine LeO.ite ?_ ?_)
   | (with_reducible refine LeO.bind ?_ (fun _ => ?_))
   | exact ih0 _ _ _ _ _
   | exact ih1 _ _ _ _ _ _ _ _ _
   | exact impl_StoreOk.mono _ _ _ _
   | exact impl_storeAsWas.mono _ _ _ _
   | exact LeO.none _
   | refine LeO.ite ?_ ?_
   | refine LeO.bind ?_ (fun _ => ?_)
theorem impl_StoreCrash.mono : ∀ a0 a1 a2 a3 k, LeO (impl_StoreCrash.f k a0 a1 a2 a3) (impl_StoreCrash.f (k + 1) a0 a1 a2 a3) := by
 intro a0 a1 a2 a3 k
 obtain ⟨ih0, ih1⟩ := impl_StoreCrash.mono_l k
 unfold impl_StoreCrash.f
 repeat' first
   | (with_reducible exact ih0 _ _ _ _ _)
   | (with_reducible exact ih1 _ _ _ _ _ _ _ _ _)
   | (with_reducible exact impl_StoreOk.mono _ _ _ _)
   | (with_reducible exact impl_storeAsWas.mono _ _ _ _)
   | (with_reducible exact LeO.refl _)
   | (with_reducible exact LeO.none _)
   | (with_reducible refine LeO.ite ?_ ?_)
   | (with_reducible refine LeO.bind ?_ (fun _ => ?_))
   | exact ih0 _ _ _ _ _
   | exact ih1 _ _ _ _ _ _ _ _ _
   | exact impl_StoreOk.mono _ _ _ _
   | exact impl_storeAsWas.mono _ _ _ _
   | exact LeO.none _
   | refine LeO.ite ?_ ?_
   | refine LeO.bind ?_ (fun _ => ?_)
set_option maxHeartbeats 8000000 in
set_option maxRecDepth 100000 in
theorem impl_StoreCrash.calls (k : Nat) (A0_0 : Option Addr) (c0_0 : Nat) (l0_0 : List (S35)) (A0_1 : Option Addr) (c0_1 : Nat) (l0_1 : List (S35)) (a0_2 : Int) (a1 : Int) (r1 : List (S35)) (r2 : List (S35)) (r3 : Int) (r4 : Bool) (w : World) (hr0_0 : Kd.C k35 w A0_0 l0_0.length l0_0) (hc0_0 : l0_0.length ≤ c0_0) (hr0_1 : Kd.C k35 w A0_1 l0_1.length l0_1) (hc0_1 : l0_1.length ≤ c0_1) (h : impl_StoreCrash.f k l0_0 l0_1 a0_2 a1 = some (r1, r2, r3, r4)) :
  Calls Try.prog 29 #[.agg #[.slice A0_0 l0_0.length c0_0, .slice A0_1 l0_1.length c0_1, .int .i64 a0_2], .int .i64 a1] w fun e w' => ∃ v0_ v1_ : Value, e = .returned (.tuple #[.agg #[v0_, v1_, .int .i64 r3], .bool r4]) ∧ Kd.R k35 35 w' w.heap.size (fun k_ => some k_ ≠ (v1_ : Value).ownBlock) v0_ r1 ∧ Kd.R k35 35 w' w.heap.size (fun k_ => some k_ ≠ (v0_ : Value).ownBlock) v1_ r2 ∧ Below w.heap.size w w' := by
 have hu31 := Try.underlying31
 have hu35 := Try.underlying35
 have HR0_0 := Aside0.mk hr0_0
 have HC0_0 := Aside0.mk hc0_0
 clear hr0_0 hc0_0
 have HR0_1 := Aside0.mk hr0_1
 have HC0_1 := Aside0.mk hc0_1
 clear hr0_1 hc0_1
 have HB := Aside0.mk (Below.refl w.heap.size w)
 have H : ((impl_StoreOk.f k l0_0 l0_1 a0_2).bind fun t590 => (if t590 = true then ((impl_within.f a1 0 1048575).bind fun t591 => (impl_StoreCrash.j0 k a1 (!t591) l0_0 l0_1 a0_2)) else (impl_StoreCrash.j0 k a1 true l0_0 l0_1 a0_2))) = some (r1, r2, r3, r4) := h
 clear h
 have HC3 := Aside0.mk H
 clear H
 go_enter Try.func29, Try.ntmps29
 go_upto_region 1 with (first | ((with_reducible refine gate_dst (N := 2) rfl ?_); refine BE 2 #[.slice A0_0 l0_0.length c0_0, .slice A0_1 l0_1.length c0_1, .int .i64 a0_2] 31 ?_; intro gb588 hg w4 hbox hb; have h_ := P4 (below_step KB hb) hbox (KG hg : w.heap.size ≤ gb588) (KG hg : w.heap.size ≤ gb588); clear HB; obtain ⟨HB, BK588, GW588, GE588⟩ := h_; clear hb hbox hg) | ((with_reducible refine gate_dst (N := 4) rfl ?_); refine BE 4 #[.slice none 0 0, .slice none 0 0, .int .i64 0] 31 ?_; intro gb589 hg w5 hbox hb; have h_ := P7 (BL BK588.out hb) (below_step KB hb) hbox (KG hg : w.heap.size ≤ gb589) (KG hg : w.heap.size ≤ gb589) (NX hg BK588.out) (Ne.symm (NX hg BK588.out)); clear BK588 HB; obtain ⟨BK588, HB, BK589, GW589, GE589, NB588_589, NB589_588⟩ := h_; clear hb hbox hg))
 (try simp only [Act.put, List.setIfInBounds_toArray, List.set_cons_zero, List.set_cons_succ])
 go_cut [16] (fun v16 wc => ∃ (kq : Nat) (x16_2 : Bool), v16 = .bool x16_2 ∧ Aside0 (impl_StoreCrash.j0 kq a1 x16_2 l0_0 l0_1 a0_2 = some (r1, r2, r3, r4)) ∧ Aside0 (kq ≤ k) ∧ Aside0 (wc.heap[gb588]? = some (.cells #[(.slice A0_0 l0_0.length c0_0), (.slice A0_1 l0_1.length c0_1), .int .i64 a0_2] 31 (0, 0))) ∧ Aside0 (wc.heap[gb589]? = some (.cells #[(.slice none 0 0), (.slice none 0 0), .int .i64 0] 31 (0, 0))) ∧ Aside0 (Below w.heap.size w wc))
 case first =>
  have H := HC3.out
  clear HC3
  replace H := Option.bind_eq_some_iff.mp H
  obtain ⟨t590, A60, H⟩ := H
  replace H : (if t590 = true then ((impl_within.f a1 0 1048575).bind fun t591 => (impl_StoreCrash.j0 k a1 (!t591) l0_0 l0_1 a0_2)) else (impl_StoreCrash.j0 k a1 true l0_0 l0_1 a0_2)) = some (r1, r2, r3, r4) := H
  have A6 := Aside0.mk A60
  clear A60
  by_cases c7 : t590 = true
  ·subst c7
   have H1 : ((impl_within.f a1 0 1048575).bind fun t591 => (impl_StoreCrash.j0 k a1 (!t591) l0_0 l0_1 a0_2)) = some (r1, r2, r3, r4) := by rw [if_pos rfl] at H; exact H
   clear H
   have H := H1
   clear H1
   replace H := Option.bind_eq_some_iff.mp H
   obtain ⟨t591, A80, H⟩ := H
   replace H : (impl_StoreCrash.j0 k a1 (!t591) l0_0 l0_1 a0_2) = some (r1, r2, r3, r4) := H
   have A8 := Aside0.mk A80
   clear A80
   have H' := Aside0.mk H
   clear H
   have hnb9 := NB588_589.out
   have hnc9 := NB589_588.out
   obtain ⟨hcz10_0, hcz10_1, hcz10_2, hfz10_0, hfz10_1, hfz10_2⟩ := C3 BK588.out
   go_wp2_with (first | ((with_reducible refine gate_callee (f := 32) rfl ?_); refine goesL_ (some 10) rfl rfl Try.func32 (by kernel_rfl) rfl #[.agg #[.slice A0_0 l0_0.length c0_0, .slice A0_1 l0_1.length c0_1, .int .i64 a0_2]] rfl KL ?_; (with_reducible refine (impl_StoreOk.calls k _ _ l0_0 _ _ l0_1 a0_2 true _ ?side1 ?side2 ?side3 ?side4 A6.out).mono ?_); (case side1 => exact KD (Kd.C_below HR0_0.out HB.out)); (case side2 => exact HC0_0.out); (case side3 => exact KD (Kd.C_below HR0_1.out HB.out)); (case side4 => exact HC0_1.out); rintro e w11 ⟨rfl, hb⟩; refine ⟨_, rfl, ?_⟩; have h_ := P3 (BL BK588.out hb) (BL BK589.out hb) (below_step KB hb); clear BK588 BK589 HB; obtain ⟨BK588, BK589, HB⟩ := h_; (try clear hb); (try clear hk); (try clear hi)) | (go_at_call 63; (with_reducible refine (impl_within.calls a1 0 1048575 t591 _ A8.out).mono ?_); rintro e w' ⟨rfl, ⟨nd, rfl⟩⟩))
   go_meet
   case rel => exact ⟨_, (!t591), (by first | rfl | (simp; done) | (simp [*]; done)), H', ⟨by first | omega | exact Nat.le_refl _⟩, ⟨KK⟩, ⟨KK⟩, ⟨KB⟩⟩
  ·replace c7 := Bool.eq_false_iff.mpr c7
   subst c7
   have H1 : (impl_StoreCrash.j0 k a1 true l0_0 l0_1 a0_2) = some (r1, r2, r3, r4) := by rw [if_neg (show ¬ (false = true) by decide)] at H; exact H
   clear H
   have H := H1
   clear H1
   have H' := Aside0.mk H
   clear H
   have hnb12 := NB588_589.out
   have hnc12 := NB589_588.out
   obtain ⟨hcz13_0, hcz13_1, hcz13_2, hfz13_0, hfz13_1, hfz13_2⟩ := C3 BK588.out
   go_wp2_with (first | ((with_reducible refine gate_callee (f := 32) rfl ?_); refine goesL_ (some 10) rfl rfl Try.func32 (by kernel_rfl) rfl #[.agg #[.slice A0_0 l0_0.length c0_0, .slice A0_1 l0_1.length c0_1, .int .i64 a0_2]] rfl KL ?_; (with_reducible refine (impl_StoreOk.calls k _ _ l0_0 _ _ l0_1 a0_2 false _ ?side1 ?side2 ?side3 ?side4 A6.out).mono ?_); (case side1 => exact KD (Kd.C_below HR0_0.out HB.out)); (case side2 => exact HC0_0.out); (case side3 => exact KD (Kd.C_below HR0_1.out HB.out)); (case side4 => exact HC0_1.out); rintro e w14 ⟨rfl, hb⟩; refine ⟨_, rfl, ?_⟩; have h_ := P3 (BL BK588.out hb) (BL BK589.out hb) (below_step KB hb); clear BK588 BK589 HB; obtain ⟨BK588, BK589, HB⟩ := h_; (try clear hb); (try clear hk); (try clear hi)))
   go_meet
   case rel => exact ⟨_, (true), (by first | rfl | (simp; done) | (simp [*]; done)), H', ⟨by first | omega | exact Nat.le_refl _⟩, ⟨KK⟩, ⟨KK⟩, ⟨KB⟩⟩
 case rest =>
  clear HC3
  try clear c1
  try clear c2
  try clear p2
  try clear c3
  try clear c7
  try clear c9
  try clear c12
  try clear hcz10_0
  try clear hcz10_1
  try clear hcz10_2
  try clear hcz13_0
  try clear hcz13_1
  try clear hcz13_2
  try clear hfz10_0
  try clear hfz10_1
  try clear hfz10_2
  try clear hfz13_0
  try clear hfz13_1
  try clear hfz13_2
  obtain ⟨kq, x16_2, rfl, HA, HJ2, BK588, BK589, HB⟩ := hcut
  cases kq with
  | zero => exact absurd HA.out (by simp [impl_StoreCrash.j0])
  | succ kj2 =>
   have H := HA.out
   clear HA
   simp only [impl_StoreCrash.j0] at H
   by_cases c15 : x16_2 = true
   ·subst c15
    have H1 : ((impl_storeAsWas.f kj2 l0_0 l0_1 a0_2).bind fun bt592 => (some (bt592.1, bt592.2.1, bt592.2.2, false))) = some (r1, r2, r3, r4) := by rw [if_pos rfl] at H; exact H
    clear H
    have H := H1
    clear H1
    replace H := Option.bind_eq_some_iff.mp H
    obtain ⟨⟨t592, t595, t598⟩, A160, H⟩ := H
    replace H : (some (t592, t595, t598, false)) = some (r1, r2, r3, r4) := H
    have A16 := Aside0.mk A160
    clear A160
    simp only [Option.some.injEq, Prod.mk.injEq] at H
    obtain ⟨rfl, rfl, rfl, rfl⟩ := H
    have hnb17 := NB588_589.out
    have hnc17 := NB589_588.out
    obtain ⟨hcz18_0, hcz18_1, hcz18_2, hfz18_0, hfz18_1, hfz18_2⟩ := C3 BK588.out
    go_wp2_with (first | ((with_reducible refine gate_callee (f := 46) rfl ?_); refine goesL_ (some 18) rfl rfl Try.func46 (by kernel_rfl) rfl #[.agg #[.slice A0_0 l0_0.length c0_0, .slice A0_1 l0_1.length c0_1, .int .i64 a0_2]] rfl KL ?_; (with_reducible refine (impl_storeAsWas.calls kj2 _ _ l0_0 _ _ l0_1 a0_2 t592 t595 t598 _ ?side1 ?side2 ?side3 ?side4 A16.out).mono ?_); (case side1 => exact KD (Kd.C_below HR0_0.out HB.out)); (case side2 => exact HC0_0.out); (case side3 => exact KD (Kd.C_below HR0_1.out HB.out)); (case side4 => exact HC0_1.out); rintro e w19 ⟨v593, v596, rfl, ho0, ho1, hb⟩; refine ⟨_, rfl, ?_⟩; have h_ := P5 (Kd.R_lower ho0 (below_size KB)) (Kd.R_lower ho1 (below_size KB)) (BL BK588.out hb) (BL BK589.out hb) (below_step KB hb); clear BK588 BK589 HB; obtain ⟨HO594, HO597, BK588, BK589, HB⟩ := h_; (try clear hb); (try clear hk); (try clear hi); (try clear ho0); (try clear ho1); obtain ⟨Ao20, co20, eo20⟩ := Kd.R_slice HO594.out; subst eo20; obtain ⟨hcz21_0, hcz21_1, hcz21_2, hfz21_0, hfz21_1, hfz21_2⟩ := C3 BK589.out; obtain ⟨Ao22, co22, eo22⟩ := Kd.R_slice HO597.out; subst eo22))
    refine bodyPost_ret (results_ct rfl _ _ gb589 31 #[.slice Ao20 t592.length co20, .slice Ao22 t595.length co22, .int .i64 t598] (0, 0) _ rfl (by refine SK ?_; refine blk_put (cs := #[.slice Ao20 t592.length co20, .slice Ao22 t595.length co22, .int .i64 0]) ?_ 2 _ rfl; refine SK ?_; refine blk_put (cs := #[.slice Ao20 t592.length co20, .slice none 0 0, .int .i64 0]) ?_ 1 _ rfl; refine SK ?_; refine blk_put (cs := #[.slice none 0 0, .slice none 0 0, .int .i64 0]) ?_ 0 _ rfl; exact SK BK589.out) Try.underlying31 rfl (by kernel_rfl)) rfl ?_
    exact ⟨_, _, KE, RQ (RT HO594.out BK589.out), RQ (RT HO597.out BK589.out), KB⟩
   ·replace c15 := Bool.eq_false_iff.mpr c15
    subst c15
    have H1 : ((impl_copyStore.f l0_0 l0_1 a0_2).bind fun bt599 => (impl_StoreCrash.l0 kj2 a1 l0_1 (l0_1.length : Int) 0 l0_0 l0_1 a0_2 bt599.1 bt599.2.2)) = some (r1, r2, r3, r4) := by rw [if_neg (show ¬ (false = true) by decide)] at H; exact H
    clear H
    have H := H1
    clear H1
    replace H := Option.bind_eq_some_iff.mp H
    obtain ⟨⟨t599, t602, t605⟩, A230, H⟩ := H
    replace H : (impl_StoreCrash.l0 kj2 a1 l0_1 (l0_1.length : Int) 0 l0_0 l0_1 a0_2 t599 t605) = some (r1, r2, r3, r4) := H
    have A23 := Aside0.mk A230
    clear A230
    have H' := Aside0.mk H
    clear H
    have hnb24 := NB588_589.out
    have hnc24 := NB589_588.out
    obtain ⟨hcz25_0, hcz25_1, hcz25_2, hfz25_0, hfz25_1, hfz25_2⟩ := C3 BK588.out
    go_wp2_with (first | ((with_reducible refine gate_callee (f := 47) rfl ?_); refine goesL_ (some 20) rfl rfl Try.func47 (by kernel_rfl) rfl #[.agg #[.slice A0_0 l0_0.length c0_0, .slice A0_1 l0_1.length c0_1, .int .i64 a0_2]] rfl KL ?_; (with_reducible refine (impl_copyStore.calls _ _ l0_0 _ _ l0_1 a0_2 t599 t602 t605 _ ?side1 ?side2 ?side3 ?side4 A23.out).mono ?_); (case side1 => exact KD (Kd.C_below HR0_0.out HB.out)); (case side2 => exact HC0_0.out); (case side3 => exact KD (Kd.C_below HR0_1.out HB.out)); (case side4 => exact HC0_1.out); rintro e w26 ⟨v600, v603, rfl, ho0, ho1, hb⟩; refine ⟨_, rfl, ?_⟩; have h_ := P5 (Kd.R_lower ho0 (below_size KB)) (Kd.R_lower ho1 (below_size KB)) (BL BK588.out hb) (BL BK589.out hb) (below_step KB hb); clear BK588 BK589 HB; obtain ⟨HO601, HO604, BK588, BK589, HB⟩ := h_; (try clear hb); (try clear hk); (try clear hi); (try clear ho0); (try clear ho1)) | ((with_reducible refine gate_dst (N := 6) rfl ?_); refine BE 6 #[.slice none 0 0, .slice none 0 0, .int .i64 0] 31 ?_; intro gb606 hg w27 hbox hb; have h_ := P12 (Kd.R_below (KR HO601.out) hb) (Kd.R_below (KR HO604.out) hb) (BL BK588.out hb) (BL BK589.out hb) (below_step KB hb) hbox (KG hg : w.heap.size ≤ gb606) (KG hg : w.heap.size ≤ gb606) (NX hg BK588.out) (Ne.symm (NX hg BK588.out)) (NX hg BK589.out) (Ne.symm (NX hg BK589.out)); clear HO601 HO604 BK588 BK589 HB; obtain ⟨HO601, HO604, BK588, BK589, HB, BK606, GW606, GE606, NB588_606, NB606_588, NB589_606, NB606_589⟩ := h_; clear hb hbox hg; obtain ⟨Ao28, co28, eo28⟩ := Kd.R_slice HO601.out; subst eo28; have hnb29 := NB606_588.out; have hnc29 := NB588_606.out; have hnb30 := NB606_589.out; have hnc30 := NB589_606.out; obtain ⟨hcz31_0, hcz31_1, hcz31_2, hfz31_0, hfz31_1, hfz31_2⟩ := C3 BK606.out; obtain ⟨Ao32, co32, eo32⟩ := Kd.R_slice HO604.out; subst eo32; obtain ⟨hcz33_0, hcz33_1, hcz33_2, hfz33_0, hfz33_1, hfz33_2⟩ := C3 BK588.out))
    go_loopg [25] kj2 (fun kq v25 w' => ∃ (x25_2 : Int) (x607000_2 : List (S35)) (u607000 : Value), v25 = .int .i64 x25_2 ∧ Aside0 (impl_StoreCrash.l0 kq a1 l0_1 (l0_1.length : Int) x25_2 l0_0 l0_1 a0_2 x607000_2 t605 = some (r1, r2, r3, r4)) ∧ Aside0 (kq ≤ kj2) ∧ Aside0 (Kd.R k35 35 w' w.heap.size (fun _ => True) u607000 x607000_2) ∧ Aside0 (w'.heap[gb588]? = some (.cells #[(.slice A0_0 l0_0.length c0_0), (.slice A0_1 l0_1.length c0_1), .int .i64 a0_2] 31 (0, 0))) ∧ Aside0 (w'.heap[gb589]? = some (.cells #[(.slice none 0 0), (.slice none 0 0), .int .i64 0] 31 (0, 0))) ∧ Aside0 (w'.heap[gb606]? = some (.cells #[u607000, (.slice none 0 0), .int .i64 t605] 31 (0, 0))) ∧ Aside0 (Below w.heap.size w w'))
    case atStart => exact ⟨(0), (t599), (.slice Ao28 t599.length co28), (by first | rfl | (simp; done) | (simp [*]; done)), H', ⟨Nat.le_refl _⟩, ⟨by (with_reducible repeat (first | apply Kd.R_alloc | apply Kd.R_drewN | apply Kd.R_drew)); exact Kd.R_mono (Kd.R_far (p := ⟨gb606, 1, none⟩) (Kd.R_far (p := ⟨gb606, 2, none⟩) (Kd.R_far (p := ⟨gb606, 1, none⟩) (Kd.R_far (p := ⟨gb606, 0, none⟩) (RT HO601.out BK606.out) (fun _ hk => hk.2) (.slice Ao28 t599.length co28)) (fun _ hk => hk.2) (.slice Ao32 t602.length co32)) (fun _ hk => hk.2) (.int .i64 t605)) (fun _ hk => hk.2) (.slice none 0 0)) (fun _ hk => trivial)⟩, ⟨KK⟩, ⟨KK⟩, ⟨by refine SK ?_; refine blk_put (cs := #[.slice Ao28 t599.length co28, .slice Ao32 t602.length co32, .int .i64 t605]) ?_ 1 _ rfl; refine SK ?_; refine blk_put (cs := #[.slice Ao28 t599.length co28, .slice Ao32 t602.length co32, .int .i64 0]) ?_ 2 _ rfl; refine SK ?_; refine blk_put (cs := #[.slice Ao28 t599.length co28, .slice none 0 0, .int .i64 0]) ?_ 1 _ rfl; refine SK ?_; refine blk_put (cs := #[.slice none 0 0, .slice none 0 0, .int .i64 0]) ?_ 0 _ rfl; exact SK BK606.out⟩, ⟨KB⟩⟩
    case round =>
     clear H'
     try clear c1
     try clear c2
     try clear p2
     try clear c3
     try clear c4
     try clear c7
     try clear c9
     try clear c12
     try clear c15
     try clear c17
     try clear c24
     try clear c29
     try clear c30
     try clear c32
     try clear hcz10_0
     try clear hcz10_1
     try clear hcz10_2
     try clear hcz13_0
     try clear hcz13_1
     try clear hcz13_2
     try clear hcz18_0
     try clear hcz18_1
     try clear hcz18_2
     try clear hcz21_0
     try clear hcz21_1
     try clear hcz21_2
     try clear hcz25_0
     try clear hcz25_1
     try clear hcz25_2
     try clear hcz31_0
     try clear hcz31_1
     try clear hcz31_2
     try clear hcz33_0
     try clear hcz33_1
     try clear hcz33_2
     try clear hfz10_0
     try clear hfz10_1
     try clear hfz10_2
     try clear hfz13_0
     try clear hfz13_1
     try clear hfz13_2
     try clear hfz18_0
     try clear hfz18_1
     try clear hfz18_2
     try clear hfz21_0
     try clear hfz21_1
     try clear hfz21_2
     try clear hfz25_0
     try clear hfz25_1
     try clear hfz25_2
     try clear hfz31_0
     try clear hfz31_1
     try clear hfz31_2
     try clear hfz33_0
     try clear hfz33_1
     try clear hfz33_2
     try clear p2
     obtain ⟨x25_2, x607000_2, u607000, rfl, HA, HK2, HO_607000, BK588, BK589, BK606, HB⟩ := hrel
     cases gk with
     | zero => exact absurd HA.out (by simp [impl_StoreCrash.l0])
     | succ k2 =>
      have H := HA.out
      clear HA
      simp only [impl_StoreCrash.l0] at H
      by_cases c34 : x25_2 < (l0_1.length : Int)
      ·rw [if_pos c34] at H
       have c34b0 : decide (x25_2 < (l0_1.length : Int)) = true := decide_eq_true c34
       clear c34
       by_cases c35 : 0 ≤ x25_2
       ·rw [if_pos c35] at H
        have c35b0 : decide (0 ≤ x25_2) = true := decide_eq_true c35
        clear c35
        by_cases c36 : x25_2 < (l0_1.length : Int)
        ·rw [if_pos c36] at H
         have c36b0 : decide (x25_2 < (l0_1.length : Int)) = true := decide_eq_true c36
         clear c36
         have c37b0 := eq_true (of_decide_eq_true (by first | (with_reducible assumption) | assumption) : 0 ≤ x25_2)
         obtain ⟨ji38, hji38⟩ : ∃ j_ : Int, (shr .i64 a1 x25_2) = j_ := ⟨_, rfl⟩
         replace H : (if (Go.bits .and .i64 (ji38) 1) = 1 then ((impl_kept.f x607000_2 ((rd_T35 l0_1 x25_2).f0) ((rd_T35 l0_1 x25_2).f1) ((rd_T35 l0_1 x25_2).f2) ((rd_T35 l0_1 x25_2).f3)).bind fun t609 => (impl_StoreCrash.l0 k2 a1 l0_1 (l0_1.length : Int) (wrap64 (x25_2 + 1)) l0_0 l0_1 a0_2 t609 t605)) else (impl_StoreCrash.l0 k2 a1 l0_1 (l0_1.length : Int) (wrap64 (x25_2 + 1)) l0_0 l0_1 a0_2 x607000_2 t605)) = some (r1, r2, r3, r4) := by first | (rw [hji38] at H; exact H) | (simp only [hji38] at H ⊢; exact H)
         have hji38_ : (a1 / 2 ^ min x25_2.toNat 64) = ji38 := hji38
         have hji38z : x25_2 ≤ 64 → (a1 / 2 ^ x25_2.toNat) = ji38 := shr_small hji38
         by_cases c39 : (Go.bits .and .i64 (ji38) 1) = 1
         ·rw [if_pos c39] at H
          have c39b0 : ((Go.bits .and .i64 (ji38) 1) == 1) = true := beq_iff_eq.mpr c39
          have c39b1 : ((Go.bits .and .i64 (ji38) 1) != 1) = false := bne_eq_false_iff_eq.mpr c39
          clear c39
          replace H := Option.bind_eq_some_iff.mp H
          obtain ⟨t609, A400, H⟩ := H
          replace H : (impl_StoreCrash.l0 k2 a1 l0_1 (l0_1.length : Int) (wrap64 (x25_2 + 1)) l0_0 l0_1 a0_2 t609 t605) = some (r1, r2, r3, r4) := H
          have A40 := Aside0.mk A400
          clear A400
          have H' := Aside0.mk H
          clear H
          have p607 : 0 ≤ (x25_2 : Int) := of_decide_eq_true (by first | (with_reducible assumption) | assumption)
          have q607 : x25_2 < (l0_1.length : Int) := of_decide_eq_true (by first | (with_reducible assumption) | assumption)
          obtain ⟨ad607, e607, hx607_0, hx607_1, hx607_2, hx607_3⟩ := at_T35 HR0_1.out x25_2 p607 q607
          cases e607
          replace hx607_0 := (HB.out.cell (World.block_lt_of_cell? w _ hx607_0)).trans hx607_0
          replace hx607_1 := (HB.out.cell (World.block_lt_of_cell? w _ hx607_1)).trans hx607_1
          replace hx607_2 := (HB.out.cell (World.block_lt_of_cell? w _ hx607_2)).trans hx607_2
          replace hx607_3 := (HB.out.cell (World.block_lt_of_cell? w _ hx607_3)).trans hx607_3
          replace p607 := eq_true p607
          replace q607 := eq_true q607
          go_wp2_with (first | ((with_reducible refine gate_dst (N := 8) rfl ?_); refine BE 8 #[.int .i64 0, .int .i64 0, .bool false, .string (⟨#[]⟩ : ByteArray)] 35 ?_; intro gb608 hg w41 hbox hb; have h_ := P14 (Kd.R_below (Kd.R_elderB (KR HO_607000.out) gb608 (Nat.le_of_eq hg.symm)) hb) (BL BK588.out hb) (BL BK589.out hb) (BL BK606.out hb) (below_step KB hb) hbox (KG hg : w.heap.size ≤ gb608) (KG hg : w.heap.size ≤ gb608) (NX hg BK588.out) (Ne.symm (NX hg BK588.out)) (NX hg BK589.out) (Ne.symm (NX hg BK589.out)) (NX hg BK606.out) (Ne.symm (NX hg BK606.out)); clear HO_607000 BK588 BK589 BK606 HB; obtain ⟨HO_607000, BK588, BK589, BK606, HB, BK608, GW608, GE608, NB588_608, NB608_588, NB589_608, NB608_589, NB606_608, NB608_606⟩ := h_; clear hb hbox hg; have hnb42 := NB608_588.out; have hnc42 := NB588_608.out; have hnb43 := NB608_589.out; have hnc43 := NB589_608.out; have hnb44 := NB608_606.out; have hnc44 := NB606_608.out; obtain ⟨hcz45_0, hcz45_1, hcz45_2, hcz45_3, hfz45_0, hfz45_1, hfz45_2, hfz45_3⟩ := C4 BK608.out) | ((with_reducible refine gate_store (t := 35) (p := 8) rfl ?_); refine store_event (t := 35) (p := 8) (v := ?vo_w46) (w1 := ((((w41.setCell ⟨gb608, 0, none⟩ (.int .i64 ((rd_T35 l0_1 x25_2).f0))).setCell ⟨gb608, 1, none⟩ (.int .i64 ((rd_T35 l0_1 x25_2).f1))).setCell ⟨gb608, 2, none⟩ (.bool ((rd_T35 l0_1 x25_2).f2))).setCell ⟨gb608, 3, none⟩ (.string ((rd_T35 l0_1 x25_2).f3)))) ?hg ?ho ?hn ?hr ?_; (case ho => rfl); (case hg => rfl); (case hn => rfl); (case hr => first | (go_simp; done) | (go_simp; rfl)); intro w46 hw; have n0_ : Aside0 (Kd.R k35 35 w46 w.heap.size (fun k_ => k_ ≠ gb608) u607000 x607000_2) := ⟨(by rw [hw]; exact (RQ (Kd.R_mono HO_607000.out (fun k_ hk => (⟨hk, hk.2⟩ : _ ∧ k_ ≠ gb608))) (hm := fun _ h => h.1.2)))⟩; have n1_ : Aside0 (w46.heap[gb588]? = some (.cells #[.slice A0_0 l0_0.length c0_0, .slice (some ad607) l0_1.length c0_1, .int .i64 a0_2] 31 (0, 0))) := ⟨(by rw [hw]; exact KK)⟩; have n2_ : Aside0 (w46.heap[gb589]? = some (.cells #[.slice none 0 0, .slice none 0 0, .int .i64 0] 31 (0, 0))) := ⟨(by rw [hw]; exact KK)⟩; have n3_ : Aside0 (w46.heap[gb606]? = some (.cells #[u607000, .slice none 0 0, .int .i64 t605] 31 (0, 0))) := ⟨(by rw [hw]; exact KK)⟩; have n4_ : Aside0 (w46.heap[gb608]? = some (.cells #[.int .i64 ((rd_T35 l0_1 x25_2).f0), .int .i64 ((rd_T35 l0_1 x25_2).f1), .bool ((rd_T35 l0_1 x25_2).f2), .string ((rd_T35 l0_1 x25_2).f3)] 35 (0, 0))) := ⟨(by rw [hw]; exact (by refine SK ?_; refine blk_put (cs := #[.int .i64 ((rd_T35 l0_1 x25_2).f0), .int .i64 ((rd_T35 l0_1 x25_2).f1), .bool ((rd_T35 l0_1 x25_2).f2), .string (⟨#[]⟩ : ByteArray)]) ?_ 3 _ rfl; refine SK ?_; refine blk_put (cs := #[.int .i64 ((rd_T35 l0_1 x25_2).f0), .int .i64 ((rd_T35 l0_1 x25_2).f1), .bool false, .string (⟨#[]⟩ : ByteArray)]) ?_ 2 _ rfl; refine SK ?_; refine blk_put (cs := #[.int .i64 ((rd_T35 l0_1 x25_2).f0), .int .i64 0, .bool false, .string (⟨#[]⟩ : ByteArray)]) ?_ 1 _ rfl; refine SK ?_; refine blk_put (cs := #[.int .i64 0, .int .i64 0, .bool false, .string (⟨#[]⟩ : ByteArray)]) ?_ 0 _ rfl; exact SK BK608.out))⟩; have n5_ : Aside0 (Below w.heap.size w w46) := ⟨(by rw [hw]; exact KB)⟩; clear hw; clear HO_607000; clear BK588; clear BK589; clear BK606; clear BK608; clear HB; have HO_607000 := n0_; have BK588 := n1_; have BK589 := n2_; have BK606 := n3_; have BK608 := n4_; have HB := n5_; clear n0_ n1_ n2_ n3_ n4_ n5_; have hnb47 := NB606_588.out; have hnc47 := NB588_606.out; have hnb48 := NB606_589.out; have hnc48 := NB589_606.out; obtain ⟨hcz49_0, hcz49_1, hcz49_2, hfz49_0, hfz49_1, hfz49_2⟩ := C3 BK606.out; obtain ⟨hcz50_0, hcz50_1, hcz50_2, hcz50_3, hfz50_0, hfz50_1, hfz50_2, hfz50_3⟩ := C4 BK608.out; obtain ⟨Ao51, co51, eo51⟩ := Kd.R_slice HO_607000.out; subst eo51) | ((with_reducible refine gate_callee (f := 64) rfl ?_); refine goesL_ (some 38) rfl rfl Try.func64 (by kernel_rfl) rfl #[.slice Ao51 x607000_2.length co51, .agg #[.int .i64 ((rd_T35 l0_1 x25_2).f0), .int .i64 ((rd_T35 l0_1 x25_2).f1), .bool ((rd_T35 l0_1 x25_2).f2), .string ((rd_T35 l0_1 x25_2).f3)]] rfl KL ?_; (with_reducible refine (impl_kept.calls (fun k_ => some k_ = (.slice Ao51 x607000_2.length co51 : Value).ownBlock) (.slice Ao51 x607000_2.length co51) x607000_2 ((rd_T35 l0_1 x25_2).f0) ((rd_T35 l0_1 x25_2).f1) ((rd_T35 l0_1 x25_2).f2) ((rd_T35 l0_1 x25_2).f3) t609 w _ ?side1 ?side2 A40.out).mono ?_); (case side1 => exact KB); (case side2 => exact Kd.R_tight rfl HO_607000.out); rintro e w52 ⟨v610, rfl, ho0, hb, hkp⟩; refine ⟨_, rfl, ?_⟩; have h_ := P6 (blk_kept KK hkp (fun hs_ => (fun e_ => (Kd.R_ne HO_607000.out BK588.out (by decide)) e_) hs_)) (blk_kept KK hkp (fun hs_ => (fun e_ => (Kd.R_ne HO_607000.out BK589.out (by decide)) e_) hs_)) (blk_kept KK hkp (fun hs_ => (fun e_ => (Kd.R_ne HO_607000.out BK606.out (by decide)) e_) hs_)) (blk_kept KK hkp (fun hs_ => (fun e_ => (Kd.R_away HO_607000.out (fun _ hk => hk)) e_) hs_)) (Kd.R_mono (ok' := fun k_ => k_ ≠ gb608) ho0 (fun k_ hk_ => Or.elim hk_ (fun hs_ => fun e_ => (Kd.R_away HO_607000.out (fun _ hk => hk)) (by rw [← e_]; exact hs_)) (fun hn_ => (Kd.freshB (g := gb608) (o := .cells #[.int .i64 ((rd_T35 l0_1 x25_2).f0), .int .i64 ((rd_T35 l0_1 x25_2).f1), .bool ((rd_T35 l0_1 x25_2).f2), .string ((rd_T35 l0_1 x25_2).f3)] 35 (0, 0)) KK k_ hn_)))) hb; clear BK588 BK589 BK606 BK608 HB HO_607000; obtain ⟨BK588, BK589, BK606, BK608, HO611, HB⟩ := h_; (try clear hb); (try clear hkp); (try clear ho0); obtain ⟨Ao53, co53, eo53⟩ := Kd.R_slice HO611.out; subst eo53; obtain ⟨hcz54_0, hcz54_1, hcz54_2, hfz54_0, hfz54_1, hfz54_2⟩ := C3 BK606.out))
          go_roundg k2
          case measure => have := HJ2.out; have := HK2.out; omega
          case rel => exact ⟨(wrap64 (x25_2 + 1)), (t609), (.slice Ao53 t609.length co53), (by first | rfl | (simp; done) | (simp [*]; done)), H', ⟨by have := HJ2.out; have := HK2.out; omega⟩, ⟨by (with_reducible repeat (first | apply Kd.R_alloc | apply Kd.R_drewN | apply Kd.R_drew)); exact Kd.R_mono (Kd.R_far (p := ⟨gb606, 0, none⟩) (RT HO611.out BK606.out) (fun _ hk => hk.2) (.slice Ao53 t609.length co53)) (fun _ hk => trivial)⟩, ⟨KK⟩, ⟨KK⟩, ⟨by refine SK ?_; refine blk_put (cs := #[.slice Ao51 x607000_2.length co51, .slice none 0 0, .int .i64 t605]) ?_ 0 _ rfl; exact SK BK606.out⟩, ⟨KB⟩⟩
         ·rw [if_neg c39] at H
          have c39b0 : ((Go.bits .and .i64 (ji38) 1) == 1) = false := beq_eq_false_iff_ne.mpr c39
          have c39b1 : ((Go.bits .and .i64 (ji38) 1) != 1) = true := bne_iff_ne.mpr c39
          have H' := Aside0.mk H
          clear H
          have p607 : 0 ≤ (x25_2 : Int) := of_decide_eq_true (by first | (with_reducible assumption) | assumption)
          have q607 : x25_2 < (l0_1.length : Int) := of_decide_eq_true (by first | (with_reducible assumption) | assumption)
          obtain ⟨ad607, e607, hx607_0, hx607_1, hx607_2, hx607_3⟩ := at_T35 HR0_1.out x25_2 p607 q607
          cases e607
          replace hx607_0 := (HB.out.cell (World.block_lt_of_cell? w _ hx607_0)).trans hx607_0
          replace hx607_1 := (HB.out.cell (World.block_lt_of_cell? w _ hx607_1)).trans hx607_1
          replace hx607_2 := (HB.out.cell (World.block_lt_of_cell? w _ hx607_2)).trans hx607_2
          replace hx607_3 := (HB.out.cell (World.block_lt_of_cell? w _ hx607_3)).trans hx607_3
          replace p607 := eq_true p607
          replace q607 := eq_true q607
          go_wp2_with (first | ((with_reducible refine gate_dst (N := 8) rfl ?_); refine BE 8 #[.int .i64 0, .int .i64 0, .bool false, .string (⟨#[]⟩ : ByteArray)] 35 ?_; intro gb608 hg w55 hbox hb; have h_ := P14 (Kd.R_below (Kd.R_elderB (KR HO_607000.out) gb608 (Nat.le_of_eq hg.symm)) hb) (BL BK588.out hb) (BL BK589.out hb) (BL BK606.out hb) (below_step KB hb) hbox (KG hg : w.heap.size ≤ gb608) (KG hg : w.heap.size ≤ gb608) (NX hg BK588.out) (Ne.symm (NX hg BK588.out)) (NX hg BK589.out) (Ne.symm (NX hg BK589.out)) (NX hg BK606.out) (Ne.symm (NX hg BK606.out)); clear HO_607000 BK588 BK589 BK606 HB; obtain ⟨HO_607000, BK588, BK589, BK606, HB, BK608, GW608, GE608, NB588_608, NB608_588, NB589_608, NB608_589, NB606_608, NB608_606⟩ := h_; clear hb hbox hg; have hnb56 := NB608_588.out; have hnc56 := NB588_608.out; have hnb57 := NB608_589.out; have hnc57 := NB589_608.out; have hnb58 := NB608_606.out; have hnc58 := NB606_608.out; obtain ⟨hcz59_0, hcz59_1, hcz59_2, hcz59_3, hfz59_0, hfz59_1, hfz59_2, hfz59_3⟩ := C4 BK608.out))
          go_roundg k2
          case measure => have := HJ2.out; have := HK2.out; omega
          case rel => exact ⟨(wrap64 (x25_2 + 1)), (x607000_2), (u607000), (by first | rfl | (simp; done) | (simp [*]; done)), H', ⟨by have := HJ2.out; have := HK2.out; omega⟩, ⟨by (with_reducible repeat (first | apply Kd.R_alloc | apply Kd.R_drewN | apply Kd.R_drew)); exact Kd.R_mono (Kd.R_far (p := ⟨gb608, 3, none⟩) (Kd.R_far (p := ⟨gb608, 2, none⟩) (Kd.R_far (p := ⟨gb608, 1, none⟩) (Kd.R_far (p := ⟨gb608, 0, none⟩) (Kd.R_mono HO_607000.out (fun k_ hk => (⟨hk, hk.2⟩ : _ ∧ k_ ≠ gb608))) (fun _ hk => hk.2) (.int .i64 ((rd_T35 l0_1 x25_2).f0))) (fun _ hk => hk.2) (.int .i64 ((rd_T35 l0_1 x25_2).f1))) (fun _ hk => hk.2) (.bool ((rd_T35 l0_1 x25_2).f2))) (fun _ hk => hk.2) (.string ((rd_T35 l0_1 x25_2).f3))) (fun _ hk => trivial)⟩, ⟨KK⟩, ⟨KK⟩, ⟨KK⟩, ⟨KB⟩⟩
        ·rw [if_neg c36] at H
         exact absurd H (by simp)
       ·rw [if_neg c35] at H
        exact absurd H (by simp)
      ·rw [if_neg c34] at H
       have c34b0 : decide (x25_2 < (l0_1.length : Int)) = false := decide_eq_false c34
       clear c34
       by_cases c60 : (x607000_2.length : Int) > 200
       ·rw [if_pos c60] at H
        have c60b0 : decide (200 < (x607000_2.length : Int)) = true := decide_eq_true c60
        have c60b1 : decide (200 < x607000_2.length) = true := decide_eq_true (by omega)
        clear c60
        replace H := Option.bind_eq_some_iff.mp H
        obtain ⟨⟨t612, t615, t618⟩, A610, H⟩ := H
        replace H : (some (t612, t615, t618, false)) = some (r1, r2, r3, r4) := H
        have A61 := Aside0.mk A610
        clear A610
        simp only [Option.some.injEq, Prod.mk.injEq] at H
        obtain ⟨rfl, rfl, rfl, rfl⟩ := H
        have hnb62 := NB606_588.out
        have hnc62 := NB588_606.out
        have hnb63 := NB606_589.out
        have hnc63 := NB589_606.out
        obtain ⟨hcz64_0, hcz64_1, hcz64_2, hfz64_0, hfz64_1, hfz64_2⟩ := C3 BK606.out
        obtain ⟨Ao65, co65, eo65⟩ := Kd.R_slice HO_607000.out
        subst eo65
        have hnb66 := NB588_589.out
        have hnc66 := NB589_588.out
        obtain ⟨hcz67_0, hcz67_1, hcz67_2, hfz67_0, hfz67_1, hfz67_2⟩ := C3 BK588.out
        go_wp2_with (first | ((with_reducible refine gate_callee (f := 47) rfl ?_); refine goesL_ (some 46) rfl rfl Try.func47 (by kernel_rfl) rfl #[.agg #[.slice A0_0 l0_0.length c0_0, .slice A0_1 l0_1.length c0_1, .int .i64 a0_2]] rfl KL ?_; (with_reducible refine (impl_copyStore.calls _ _ l0_0 _ _ l0_1 a0_2 t612 t615 t618 _ ?side1 ?side2 ?side3 ?side4 A61.out).mono ?_); (case side1 => exact KD (Kd.C_below HR0_0.out HB.out)); (case side2 => exact HC0_0.out); (case side3 => exact KD (Kd.C_below HR0_1.out HB.out)); (case side4 => exact HC0_1.out); rintro e w68 ⟨v613, v616, rfl, ho0, ho1, hb⟩; refine ⟨_, rfl, ?_⟩; have h_ := P7 (Kd.R_mono (Kd.R_told (Kd.R_told (Kd.R_old (KR HO_607000.out) hb) (Kd.R_base ho0)) (Kd.R_base ho1)) (fun _ h_ => h_.1)) (Kd.R_lower (Kd.R_new' ho0 (Kd.R_lt (KR HO_607000.out))) (below_size KB)) (Kd.R_lower (Kd.R_new' ho1 (Kd.R_lt (KR HO_607000.out))) (below_size KB)) (BL BK588.out hb) (BL BK589.out hb) (BL BK606.out hb) (below_step KB hb); clear HO_607000 BK588 BK589 BK606 HB; obtain ⟨HO_607000, HO614, HO617, BK588, BK589, BK606, HB⟩ := h_; (try clear hb); (try clear hk); (try clear hi); (try clear ho0); (try clear ho1); obtain ⟨Ao69, co69, eo69⟩ := Kd.R_slice HO614.out; subst eo69; obtain ⟨hcz70_0, hcz70_1, hcz70_2, hfz70_0, hfz70_1, hfz70_2⟩ := C3 BK589.out; obtain ⟨Ao71, co71, eo71⟩ := Kd.R_slice HO617.out; subst eo71))
        refine bodyPost_ret (results_ct rfl _ _ gb589 31 #[.slice Ao69 t612.length co69, .slice Ao71 t615.length co71, .int .i64 t618] (0, 0) _ rfl (by refine SK ?_; refine blk_put (cs := #[.slice Ao69 t612.length co69, .slice Ao71 t615.length co71, .int .i64 0]) ?_ 2 _ rfl; refine SK ?_; refine blk_put (cs := #[.slice Ao69 t612.length co69, .slice none 0 0, .int .i64 0]) ?_ 1 _ rfl; refine SK ?_; refine blk_put (cs := #[.slice none 0 0, .slice none 0 0, .int .i64 0]) ?_ 0 _ rfl; exact SK BK589.out) Try.underlying31 rfl (by kernel_rfl)) rfl ?_
        exact ⟨_, _, KE, RQ (RT HO614.out BK589.out) (hm := fun _ h => h.1.1), RQ (RT HO617.out BK589.out) (hm := fun _ h => h.1.1), KB⟩
       ·rw [if_neg c60] at H
        have c60b0 : decide (200 < (x607000_2.length : Int)) = false := decide_eq_false c60
        have c60b1 : decide (200 < x607000_2.length) = false := decide_eq_false (by omega)
        clear c60
        simp only [Option.some.injEq, Prod.mk.injEq] at H
        obtain ⟨rfl, rfl, rfl, rfl⟩ := H
        have hnb72 := NB606_588.out
        have hnc72 := NB588_606.out
        have hnb73 := NB606_589.out
        have hnc73 := NB589_606.out
        obtain ⟨hcz74_0, hcz74_1, hcz74_2, hfz74_0, hfz74_1, hfz74_2⟩ := C3 BK606.out
        obtain ⟨Ao75, co75, eo75⟩ := Kd.R_slice HO_607000.out
        subst eo75
        have hnb76 := NB589_588.out
        have hnc76 := NB588_589.out
        obtain ⟨hcz77_0, hcz77_1, hcz77_2, hfz77_0, hfz77_1, hfz77_2⟩ := C3 BK589.out
        go_wp2
        refine bodyPost_ret (results_ct rfl _ _ gb589 31 #[.slice Ao75 x607000_2.length co75, .slice none 0 0, .int .i64 t605] (0, 0) _ rfl (by refine SK ?_; refine blk_put (cs := #[.slice Ao75 x607000_2.length co75, .slice none 0 0, .int .i64 0]) ?_ 2 _ rfl; refine SK ?_; refine blk_put (cs := #[.slice Ao75 x607000_2.length co75, .slice none 0 0, .int .i64 0]) ?_ 1 _ rfl; refine SK ?_; refine blk_put (cs := #[.slice none 0 0, .slice none 0 0, .int .i64 0]) ?_ 0 _ rfl; exact SK BK589.out) Try.underlying31 rfl (by kernel_rfl)) rfl ?_
        exact ⟨_, _, KE, by (with_reducible repeat (first | apply Kd.R_alloc | apply Kd.R_drewN | apply Kd.R_drew)); exact Kd.R_mono (Kd.R_far (p := ⟨gb589, 2, none⟩) (Kd.R_far (p := ⟨gb589, 1, none⟩) (Kd.R_far (p := ⟨gb589, 0, none⟩) (RT HO_607000.out BK589.out) (fun _ hk => hk.2) (.slice Ao75 x607000_2.length co75)) (fun _ hk => hk.2) (.slice none 0 0)) (fun _ hk => hk.2) (.int .i64 t605)) (fun _ hk => (by simp [Value.ownBlock])), by first | exact Kd.R_nil _ _ _ _ _ | exact Kd.N_nil _ _ _ _ _ | exact Kd.V_nil _ _ _ _ _ | exact Kd.Q_nil _ _ _ _ _ | exact Kd.S_nil _ _ _ _ _, KB⟩

/-! ### impl_StoreSync: function 35 -/
def impl_StoreSync.f (k : Nat) (l0_0 : List (S35)) (l0_1 : List (S35)) (a0_2 : Int) : Option ((List (S35)) × (List (S35)) × Int × Bool) := (impl_StoreCrash.f k l0_0 l0_1 a0_2 1048575).bind fun bt621 => (some (bt621.1, bt621.2.1, bt621.2.2.1, bt621.2.2.2))
theorem impl_StoreSync.mono : ∀ a0 a1 a2 k, LeO (impl_StoreSync.f k a0 a1 a2) (impl_StoreSync.f (k + 1) a0 a1 a2) := by
 intro a0 a1 a2 k
 unfold impl_StoreSync.f
 repeat' first
   | (with_reducible exact impl_StoreCrash.mono _ _ _ _ _)
   | (with_reducible exact LeO.refl _)
   | (with_reducible exact LeO.none _)
   | (with_reducible refine LeO.ite ?_ ?_)
   | (with_reducible refine LeO.bind ?_ (fun _ => ?_))
   | exact impl_StoreCrash.mono _ _ _ _ _
   | exact LeO.none _
   | refine LeO.ite ?_ ?_
   | refine LeO.bind ?_ (fun _ => ?_)
set_option maxHeartbeats 8000000 in
set_option maxRecDepth 100000 in
theorem impl_StoreSync.calls (k : Nat) (A0_0 : Option Addr) (c0_0 : Nat) (l0_0 : List (S35)) (A0_1 : Option Addr) (c0_1 : Nat) (l0_1 : List (S35)) (a0_2 : Int) (r1 : List (S35)) (r2 : List (S35)) (r3 : Int) (r4 : Bool) (w : World) (hr0_0 : Kd.C k35 w A0_0 l0_0.length l0_0) (hc0_0 : l0_0.length ≤ c0_0) (hr0_1 : Kd.C k35 w A0_1 l0_1.length l0_1) (hc0_1 : l0_1.length ≤ c0_1) (h : impl_StoreSync.f k l0_0 l0_1 a0_2 = some (r1, r2, r3, r4)) :
  Calls Try.prog 35 #[.agg #[.slice A0_0 l0_0.length c0_0, .slice A0_1 l0_1.length c0_1, .int .i64 a0_2]] w fun e w' => ∃ v0_ v1_ : Value, e = .returned (.tuple #[.agg #[v0_, v1_, .int .i64 r3], .bool r4]) ∧ Kd.R k35 35 w' w.heap.size (fun k_ => some k_ ≠ (v1_ : Value).ownBlock) v0_ r1 ∧ Kd.R k35 35 w' w.heap.size (fun k_ => some k_ ≠ (v0_ : Value).ownBlock) v1_ r2 ∧ Below w.heap.size w w' := by
 have hu31 := Try.underlying31
 have HR0_0 := Aside0.mk hr0_0
 have HC0_0 := Aside0.mk hc0_0
 clear hr0_0 hc0_0
 have HR0_1 := Aside0.mk hr0_1
 have HC0_1 := Aside0.mk hc0_1
 clear hr0_1 hc0_1
 have HB := Aside0.mk (Below.refl w.heap.size w)
 have H : ((impl_StoreCrash.f k l0_0 l0_1 a0_2 1048575).bind fun bt621 => (some (bt621.1, bt621.2.1, bt621.2.2.1, bt621.2.2.2))) = some (r1, r2, r3, r4) := h
 clear h
 replace H := Option.bind_eq_some_iff.mp H
 obtain ⟨⟨t621, t624, t627, t628⟩, A20, H⟩ := H
 replace H : (some (t621, t624, t627, t628)) = some (r1, r2, r3, r4) := H
 have A2 := Aside0.mk A20
 clear A20
 simp only [Option.some.injEq, Prod.mk.injEq] at H
 obtain ⟨rfl, rfl, rfl, rfl⟩ := H
 go_enter Try.func35, Try.ntmps35
 go_wp2_with (first | ((with_reducible refine gate_dst (N := 1) rfl ?_); refine BE 1 #[.slice A0_0 l0_0.length c0_0, .slice A0_1 l0_1.length c0_1, .int .i64 a0_2] 31 ?_; intro gb619 hg w3 hbox hb; have h_ := P4 (below_step KB hb) hbox (KG hg : w.heap.size ≤ gb619) (KG hg : w.heap.size ≤ gb619); clear HB; obtain ⟨HB, BK619, GW619, GE619⟩ := h_; clear hb hbox hg) | ((with_reducible refine gate_dst (N := 2) rfl ?_); refine BE 2 #[.slice none 0 0, .slice none 0 0, .int .i64 0] 31 ?_; intro gb620 hg w4 hbox hb; have h_ := P7 (BL BK619.out hb) (below_step KB hb) hbox (KG hg : w.heap.size ≤ gb620) (KG hg : w.heap.size ≤ gb620) (NX hg BK619.out) (Ne.symm (NX hg BK619.out)); clear BK619 HB; obtain ⟨BK619, HB, BK620, GW620, GE620, NB619_620, NB620_619⟩ := h_; clear hb hbox hg; have hnb5 := NB619_620.out; have hnc5 := NB620_619.out; obtain ⟨hcz6_0, hcz6_1, hcz6_2, hfz6_0, hfz6_1, hfz6_2⟩ := C3 BK619.out) | ((with_reducible refine gate_callee (f := 29) rfl ?_); refine goesL_ (some 5) rfl rfl Try.func29 (by kernel_rfl) rfl #[.agg #[.slice A0_0 l0_0.length c0_0, .slice A0_1 l0_1.length c0_1, .int .i64 a0_2], .int .i64 1048575] rfl KL ?_; (with_reducible refine (impl_StoreCrash.calls k _ _ l0_0 _ _ l0_1 a0_2 1048575 t621 t624 t627 t628 _ ?side1 ?side2 ?side3 ?side4 A2.out).mono ?_); (case side1 => exact KD (Kd.C_below HR0_0.out HB.out)); (case side2 => exact HC0_0.out); (case side3 => exact KD (Kd.C_below HR0_1.out HB.out)); (case side4 => exact HC0_1.out); rintro e w7 ⟨v622, v625, rfl, ho0, ho1, hb⟩; refine ⟨_, rfl, ?_⟩; have h_ := P5 (Kd.R_lower ho0 (below_size KB)) (Kd.R_lower ho1 (below_size KB)) (BL BK619.out hb) (BL BK620.out hb) (below_step KB hb); clear BK619 BK620 HB; obtain ⟨HO623, HO626, BK619, BK620, HB⟩ := h_; (try clear hb); (try clear hk); (try clear hi); (try clear ho0); (try clear ho1); obtain ⟨Ao8, co8, eo8⟩ := Kd.R_slice HO623.out; subst eo8; obtain ⟨hcz9_0, hcz9_1, hcz9_2, hfz9_0, hfz9_1, hfz9_2⟩ := C3 BK620.out; obtain ⟨Ao10, co10, eo10⟩ := Kd.R_slice HO626.out; subst eo10))
 refine bodyPost_ret (results_ct rfl _ _ gb620 31 #[.slice Ao8 t621.length co8, .slice Ao10 t624.length co10, .int .i64 t627] (0, 0) _ rfl (by refine SK ?_; refine blk_put (cs := #[.slice Ao8 t621.length co8, .slice Ao10 t624.length co10, .int .i64 0]) ?_ 2 _ rfl; refine SK ?_; refine blk_put (cs := #[.slice Ao8 t621.length co8, .slice none 0 0, .int .i64 0]) ?_ 1 _ rfl; refine SK ?_; refine blk_put (cs := #[.slice none 0 0, .slice none 0 0, .int .i64 0]) ?_ 0 _ rfl; exact SK BK620.out) Try.underlying31 rfl (by kernel_rfl)) rfl ?_
 exact ⟨_, _, KE, RQ (RT HO623.out BK620.out), RQ (RT HO626.out BK620.out), KB⟩

/-! ### impl_StoreSeal: function 37 -/
def impl_StoreSeal.f (k : Nat) (l0_0 : List (S35)) (l0_1 : List (S35)) (a0_2 : Int) (a1 : Int) : Option ((List (S35)) × (List (S35)) × Int × Bool) := (impl_StoreSync.f k l0_0 l0_1 a0_2).bind fun bt631 => (if bt631.2.2.2 = true then ((impl_within.f a1 0 30).bind fun t640 => (if t640 = true then (some (bt631.1, bt631.2.1, mx bt631.2.2.1 a1, true)) else ((impl_storeAsWas.f k l0_0 l0_1 a0_2).bind fun bt641 => (some (bt641.1, bt641.2.1, bt641.2.2, false))))) else ((impl_storeAsWas.f k l0_0 l0_1 a0_2).bind fun bt648 => (some (bt648.1, bt648.2.1, bt648.2.2, false))))
theorem impl_StoreSeal.mono : ∀ a0 a1 a2 a3 k, LeO (impl_StoreSeal.f k a0 a1 a2 a3) (impl_StoreSeal.f (k + 1) a0 a1 a2 a3) := by
 intro a0 a1 a2 a3 k
 unfold impl_StoreSeal.f
 repeat' first
   | (with_reducible exact impl_StoreSync.mono _ _ _ _)
   | (with_reducible exact impl_storeAsWas.mono _ _ _ _)
   | (with_reducible exact LeO.refl _)
   | (with_reducible exact LeO.none _)
   | (with_reducible refine LeO.ite ?_ ?_)
   | (with_reducible refine LeO.bind ?_ (fun _ => ?_))
   | exact impl_StoreSync.mono _ _ _ _
   | exact impl_storeAsWas.mono _ _ _ _
   | exact LeO.none _
   | refine LeO.ite ?_ ?_
   | refine LeO.bind ?_ (fun _ => ?_)
set_option maxHeartbeats 8000000 in
set_option maxRecDepth 100000 in
theorem impl_StoreSeal.calls (k : Nat) (A0_0 : Option Addr) (c0_0 : Nat) (l0_0 : List (S35)) (A0_1 : Option Addr) (c0_1 : Nat) (l0_1 : List (S35)) (a0_2 : Int) (a1 : Int) (r1 : List (S35)) (r2 : List (S35)) (r3 : Int) (r4 : Bool) (w : World) (hr0_0 : Kd.C k35 w A0_0 l0_0.length l0_0) (hc0_0 : l0_0.length ≤ c0_0) (hr0_1 : Kd.C k35 w A0_1 l0_1.length l0_1) (hc0_1 : l0_1.length ≤ c0_1) (h : impl_StoreSeal.f k l0_0 l0_1 a0_2 a1 = some (r1, r2, r3, r4)) :
  Calls Try.prog 37 #[.agg #[.slice A0_0 l0_0.length c0_0, .slice A0_1 l0_1.length c0_1, .int .i64 a0_2], .int .i64 a1] w fun e w' => ∃ v0_ v1_ : Value, e = .returned (.tuple #[.agg #[v0_, v1_, .int .i64 r3], .bool r4]) ∧ Kd.R k35 35 w' w.heap.size (fun k_ => some k_ ≠ (v1_ : Value).ownBlock) v0_ r1 ∧ Kd.R k35 35 w' w.heap.size (fun k_ => some k_ ≠ (v0_ : Value).ownBlock) v1_ r2 ∧ Below w.heap.size w w' := by
 have hu31 := Try.underlying31
 have HR0_0 := Aside0.mk hr0_0
 have HC0_0 := Aside0.mk hc0_0
 clear hr0_0 hc0_0
 have HR0_1 := Aside0.mk hr0_1
 have HC0_1 := Aside0.mk hc0_1
 clear hr0_1 hc0_1
 have HB := Aside0.mk (Below.refl w.heap.size w)
 have H : ((impl_StoreSync.f k l0_0 l0_1 a0_2).bind fun bt631 => (if bt631.2.2.2 = true then ((impl_within.f a1 0 30).bind fun t640 => (if t640 = true then (some (bt631.1, bt631.2.1, mx bt631.2.2.1 a1, true)) else ((impl_storeAsWas.f k l0_0 l0_1 a0_2).bind fun bt641 => (some (bt641.1, bt641.2.1, bt641.2.2, false))))) else ((impl_storeAsWas.f k l0_0 l0_1 a0_2).bind fun bt648 => (some (bt648.1, bt648.2.1, bt648.2.2, false))))) = some (r1, r2, r3, r4) := h
 clear h
 replace H := Option.bind_eq_some_iff.mp H
 obtain ⟨⟨t631, t634, t637, t638⟩, A30, H⟩ := H
 replace H : (if t638 = true then ((impl_within.f a1 0 30).bind fun t640 => (if t640 = true then (some (t631, t634, mx t637 a1, true)) else ((impl_storeAsWas.f k l0_0 l0_1 a0_2).bind fun bt641 => (some (bt641.1, bt641.2.1, bt641.2.2, false))))) else ((impl_storeAsWas.f k l0_0 l0_1 a0_2).bind fun bt648 => (some (bt648.1, bt648.2.1, bt648.2.2, false)))) = some (r1, r2, r3, r4) := H
 have A3 := Aside0.mk A30
 clear A30
 by_cases c4 : t638 = true
 ·subst c4
  have H1 : ((impl_within.f a1 0 30).bind fun t640 => (if t640 = true then (some (t631, t634, mx t637 a1, true)) else ((impl_storeAsWas.f k l0_0 l0_1 a0_2).bind fun bt641 => (some (bt641.1, bt641.2.1, bt641.2.2, false))))) = some (r1, r2, r3, r4) := by rw [if_pos rfl] at H; exact H
  clear H
  have H := H1
  clear H1
  replace H := Option.bind_eq_some_iff.mp H
  obtain ⟨t640, A50, H⟩ := H
  replace H : (if t640 = true then (some (t631, t634, mx t637 a1, true)) else ((impl_storeAsWas.f k l0_0 l0_1 a0_2).bind fun bt641 => (some (bt641.1, bt641.2.1, bt641.2.2, false)))) = some (r1, r2, r3, r4) := H
  have A5 := Aside0.mk A50
  clear A50
  by_cases c6 : t640 = true
  ·subst c6
   have H1 : (some (t631, t634, mx t637 a1, true)) = some (r1, r2, r3, r4) := by rw [if_pos rfl] at H; exact H
   clear H
   have H := H1
   clear H1
   obtain ⟨ji7, hji7⟩ : ∃ j_ : Int, (mx t637 a1) = j_ := ⟨_, rfl⟩
   replace H : (some (t631, t634, ji7, true)) = some (r1, r2, r3, r4) := by first | (rw [hji7] at H; exact H) | (simp only [hji7] at H ⊢; exact H)
   (try rw [hji7] at A3)
   (try rw [hji7] at A5)
   have hji7_ : (if t637 < a1 then a1 else t637) = ji7 := hji7
   simp only [Option.some.injEq, Prod.mk.injEq] at H
   obtain ⟨rfl, rfl, rfl, rfl⟩ := H
   go_enter Try.func37, Try.ntmps37
   go_wp2_with (first | ((with_reducible refine gate_dst (N := 2) rfl ?_); refine BE 2 #[.slice A0_0 l0_0.length c0_0, .slice A0_1 l0_1.length c0_1, .int .i64 a0_2] 31 ?_; intro gb629 hg w8 hbox hb; have h_ := P4 (below_step KB hb) hbox (KG hg : w.heap.size ≤ gb629) (KG hg : w.heap.size ≤ gb629); clear HB; obtain ⟨HB, BK629, GW629, GE629⟩ := h_; clear hb hbox hg) | ((with_reducible refine gate_dst (N := 4) rfl ?_); refine BE 4 #[.slice none 0 0, .slice none 0 0, .int .i64 0] 31 ?_; intro gb630 hg w9 hbox hb; have h_ := P7 (BL BK629.out hb) (below_step KB hb) hbox (KG hg : w.heap.size ≤ gb630) (KG hg : w.heap.size ≤ gb630) (NX hg BK629.out) (Ne.symm (NX hg BK629.out)); clear BK629 HB; obtain ⟨BK629, HB, BK630, GW630, GE630, NB629_630, NB630_629⟩ := h_; clear hb hbox hg; have hnb10 := NB629_630.out; have hnc10 := NB630_629.out; obtain ⟨hcz11_0, hcz11_1, hcz11_2, hfz11_0, hfz11_1, hfz11_2⟩ := C3 BK629.out) | ((with_reducible refine gate_callee (f := 35) rfl ?_); refine goesL_ (some 10) rfl rfl Try.func35 (by kernel_rfl) rfl #[.agg #[.slice A0_0 l0_0.length c0_0, .slice A0_1 l0_1.length c0_1, .int .i64 a0_2]] rfl KL ?_; (with_reducible refine (impl_StoreSync.calls k _ _ l0_0 _ _ l0_1 a0_2 t631 t634 t637 true _ ?side1 ?side2 ?side3 ?side4 A3.out).mono ?_); (case side1 => exact KD (Kd.C_below HR0_0.out HB.out)); (case side2 => exact HC0_0.out); (case side3 => exact KD (Kd.C_below HR0_1.out HB.out)); (case side4 => exact HC0_1.out); rintro e w12 ⟨v632, v635, rfl, ho0, ho1, hb⟩; refine ⟨_, rfl, ?_⟩; have h_ := P5 (Kd.R_lower ho0 (below_size KB)) (Kd.R_lower ho1 (below_size KB)) (BL BK629.out hb) (BL BK630.out hb) (below_step KB hb); clear BK629 BK630 HB; obtain ⟨HO633, HO636, BK629, BK630, HB⟩ := h_; (try clear hb); (try clear hk); (try clear hi); (try clear ho0); (try clear ho1)) | ((with_reducible refine gate_dst (N := 6) rfl ?_); refine BE 6 #[.slice none 0 0, .slice none 0 0, .int .i64 0] 31 ?_; intro gb639 hg w13 hbox hb; have h_ := P12 (Kd.R_below (KR HO633.out) hb) (Kd.R_below (KR HO636.out) hb) (BL BK629.out hb) (BL BK630.out hb) (below_step KB hb) hbox (KG hg : w.heap.size ≤ gb639) (KG hg : w.heap.size ≤ gb639) (NX hg BK629.out) (Ne.symm (NX hg BK629.out)) (NX hg BK630.out) (Ne.symm (NX hg BK630.out)); clear HO633 HO636 BK629 BK630 HB; obtain ⟨HO633, HO636, BK629, BK630, HB, BK639, GW639, GE639, NB629_639, NB639_629, NB630_639, NB639_630⟩ := h_; clear hb hbox hg; obtain ⟨Ao14, co14, eo14⟩ := Kd.R_slice HO633.out; subst eo14; have hnb15 := NB639_629.out; have hnc15 := NB629_639.out; have hnb16 := NB639_630.out; have hnc16 := NB630_639.out; obtain ⟨hcz17_0, hcz17_1, hcz17_2, hfz17_0, hfz17_1, hfz17_2⟩ := C3 BK639.out; obtain ⟨Ao18, co18, eo18⟩ := Kd.R_slice HO636.out; subst eo18) | (go_at_call 63; (with_reducible refine (impl_within.calls a1 0 30 true _ A5.out).mono ?_); rintro e w' ⟨rfl, ⟨nd, rfl⟩⟩; have hcy_ : ((((w13.setCell ⟨gb639, 0, none⟩ (.slice Ao14 t631.length co14)).setCell ⟨gb639, 1, none⟩ (.slice Ao18 t634.length co18)).setCell ⟨gb639, 2, none⟩ (.int .i64 t637)).drewN nd).cell? ⟨gb639, 2, none⟩ = some (.int .i64 t637) := (blk_cell (blk_drewN (blk_put (blk_put (blk_put BK639.out 0 _ rfl) 1 _ rfl) 2 _ rfl) nd) 2).trans rfl; obtain ⟨hcz19_0, hcz19_1, hcz19_2, hfz19_0, hfz19_1, hfz19_2⟩ := C3 BK630.out))
   refine bodyPost_ret (results_ct rfl _ _ gb630 31 #[.slice Ao14 t631.length co14, .slice Ao18 t634.length co18, .int .i64 ji7] (0, 0) _ rfl (by refine SK ?_; refine blk_put (cs := #[.slice Ao14 t631.length co14, .slice Ao18 t634.length co18, .int .i64 0]) ?_ 2 _ rfl; refine SK ?_; refine blk_put (cs := #[.slice Ao14 t631.length co14, .slice none 0 0, .int .i64 0]) ?_ 1 _ rfl; refine SK ?_; refine blk_put (cs := #[.slice none 0 0, .slice none 0 0, .int .i64 0]) ?_ 0 _ rfl; refine SK ?_; refine blk_far ?_ NB630_639.out _; refine SK ?_; refine blk_far ?_ NB630_639.out _; refine SK ?_; refine blk_far ?_ NB630_639.out _; refine SK ?_; refine blk_far ?_ NB630_639.out _; first | with_reducible exact BK630.out | exact SK BK630.out) Try.underlying31 rfl (by kernel_rfl)) rfl ?_
   exact ⟨_, _, by first | rfl | (simp [errW_none, errW_some] <;> rfl) | (simp only [← hji7]; first | rfl | (simp [errW_none, errW_some] <;> rfl)) | (simp [*, errW_none, errW_some] <;> rfl), RQ (RT (RT HO633.out BK639.out) BK630.out) (hm := fun _ h => h.1.1), RQ (RT (RT HO636.out BK639.out) BK630.out) (hm := fun _ h => h.1.1), KB⟩
  ·replace c6 := Bool.eq_false_iff.mpr c6
   subst c6
   have H1 : ((impl_storeAsWas.f k l0_0 l0_1 a0_2).bind fun bt641 => (some (bt641.1, bt641.2.1, bt641.2.2, false))) = some (r1, r2, r3, r4) := by rw [if_neg (show ¬ (false = true) by decide)] at H; exact H
   clear H
   have H := H1
   clear H1
   replace H := Option.bind_eq_some_iff.mp H
   obtain ⟨⟨t641, t644, t647⟩, A200, H⟩ := H
   replace H : (some (t641, t644, t647, false)) = some (r1, r2, r3, r4) := H
   have A20 := Aside0.mk A200
   clear A200
   simp only [Option.some.injEq, Prod.mk.injEq] at H
   obtain ⟨rfl, rfl, rfl, rfl⟩ := H
   go_enter Try.func37, Try.ntmps37
   go_wp2_with (first | ((with_reducible refine gate_dst (N := 2) rfl ?_); refine BE 2 #[.slice A0_0 l0_0.length c0_0, .slice A0_1 l0_1.length c0_1, .int .i64 a0_2] 31 ?_; intro gb629 hg w21 hbox hb; have h_ := P4 (below_step KB hb) hbox (KG hg : w.heap.size ≤ gb629) (KG hg : w.heap.size ≤ gb629); clear HB; obtain ⟨HB, BK629, GW629, GE629⟩ := h_; clear hb hbox hg) | ((with_reducible refine gate_dst (N := 4) rfl ?_); refine BE 4 #[.slice none 0 0, .slice none 0 0, .int .i64 0] 31 ?_; intro gb630 hg w22 hbox hb; have h_ := P7 (BL BK629.out hb) (below_step KB hb) hbox (KG hg : w.heap.size ≤ gb630) (KG hg : w.heap.size ≤ gb630) (NX hg BK629.out) (Ne.symm (NX hg BK629.out)); clear BK629 HB; obtain ⟨BK629, HB, BK630, GW630, GE630, NB629_630, NB630_629⟩ := h_; clear hb hbox hg; have hnb23 := NB629_630.out; have hnc23 := NB630_629.out; obtain ⟨hcz24_0, hcz24_1, hcz24_2, hfz24_0, hfz24_1, hfz24_2⟩ := C3 BK629.out) | ((with_reducible refine gate_callee (f := 35) rfl ?_); refine goesL_ (some 10) rfl rfl Try.func35 (by kernel_rfl) rfl #[.agg #[.slice A0_0 l0_0.length c0_0, .slice A0_1 l0_1.length c0_1, .int .i64 a0_2]] rfl KL ?_; (with_reducible refine (impl_StoreSync.calls k _ _ l0_0 _ _ l0_1 a0_2 t631 t634 t637 true _ ?side1 ?side2 ?side3 ?side4 A3.out).mono ?_); (case side1 => exact KD (Kd.C_below HR0_0.out HB.out)); (case side2 => exact HC0_0.out); (case side3 => exact KD (Kd.C_below HR0_1.out HB.out)); (case side4 => exact HC0_1.out); rintro e w25 ⟨v632, v635, rfl, ho0, ho1, hb⟩; refine ⟨_, rfl, ?_⟩; have h_ := P5 (Kd.R_lower ho0 (below_size KB)) (Kd.R_lower ho1 (below_size KB)) (BL BK629.out hb) (BL BK630.out hb) (below_step KB hb); clear BK629 BK630 HB; obtain ⟨HO633, HO636, BK629, BK630, HB⟩ := h_; (try clear hb); (try clear hk); (try clear hi); (try clear ho0); (try clear ho1)) | ((with_reducible refine gate_dst (N := 6) rfl ?_); refine BE 6 #[.slice none 0 0, .slice none 0 0, .int .i64 0] 31 ?_; intro gb639 hg w26 hbox hb; have h_ := P12 (Kd.R_below (KR HO633.out) hb) (Kd.R_below (KR HO636.out) hb) (BL BK629.out hb) (BL BK630.out hb) (below_step KB hb) hbox (KG hg : w.heap.size ≤ gb639) (KG hg : w.heap.size ≤ gb639) (NX hg BK629.out) (Ne.symm (NX hg BK629.out)) (NX hg BK630.out) (Ne.symm (NX hg BK630.out)); clear HO633 HO636 BK629 BK630 HB; obtain ⟨HO633, HO636, BK629, BK630, HB, BK639, GW639, GE639, NB629_639, NB639_629, NB630_639, NB639_630⟩ := h_; clear hb hbox hg; obtain ⟨Ao27, co27, eo27⟩ := Kd.R_slice HO633.out; subst eo27; have hnb28 := NB639_629.out; have hnc28 := NB629_639.out; have hnb29 := NB639_630.out; have hnc29 := NB630_639.out; obtain ⟨hcz30_0, hcz30_1, hcz30_2, hfz30_0, hfz30_1, hfz30_2⟩ := C3 BK639.out; obtain ⟨Ao31, co31, eo31⟩ := Kd.R_slice HO636.out; subst eo31) | (go_at_call 63; (with_reducible refine (impl_within.calls a1 0 30 false _ A5.out).mono ?_); rintro e w' ⟨rfl, ⟨nd, rfl⟩⟩; obtain ⟨hcz32_0, hcz32_1, hcz32_2, hfz32_0, hfz32_1, hfz32_2⟩ := C3 BK629.out) | ((with_reducible refine gate_callee (f := 46) rfl ?_); refine goesL_ (some 21) rfl rfl Try.func46 (by kernel_rfl) rfl #[.agg #[.slice A0_0 l0_0.length c0_0, .slice A0_1 l0_1.length c0_1, .int .i64 a0_2]] rfl KL ?_; (with_reducible refine (impl_storeAsWas.calls k _ _ l0_0 _ _ l0_1 a0_2 t641 t644 t647 _ ?side1 ?side2 ?side3 ?side4 A20.out).mono ?_); (case side1 => exact Kd.C_below HR0_0.out KB); (case side2 => exact HC0_0.out); (case side3 => exact Kd.C_below HR0_1.out KB); (case side4 => exact HC0_1.out); rintro e w33 ⟨v642, v645, rfl, ho0, ho1, hb⟩; refine ⟨_, rfl, ?_⟩; have h_ := P8 (Kd.R_mono (Kd.R_told (Kd.R_told (Kd.R_old (RQ (RT HO633.out BK639.out)) hb) (Kd.R_base ho0)) (Kd.R_base ho1)) (fun _ h_ => h_.1)) (Kd.R_mono (Kd.R_told (Kd.R_told (Kd.R_old (RQ (RT HO636.out BK639.out)) hb) (Kd.R_base ho0)) (Kd.R_base ho1)) (fun _ h_ => h_.1)) (Kd.R_lower (Kd.R_new' (Kd.R_new' ho0 (Kd.R_lt (RQ (RT HO633.out BK639.out)))) (Kd.R_lt (RQ (RT HO636.out BK639.out)))) (below_size KB)) (Kd.R_lower (Kd.R_new' (Kd.R_new' ho1 (Kd.R_lt (RQ (RT HO633.out BK639.out)))) (Kd.R_lt (RQ (RT HO636.out BK639.out)))) (below_size KB)) (BL BK629.out hb) (BL BK630.out hb) (blk_below (g := gb639) (o := .cells #[.slice Ao27 t631.length co27, .slice Ao31 t634.length co31, .int .i64 t637] 31 (0, 0)) (by refine SK ?_; refine blk_put (cs := #[.slice Ao27 t631.length co27, .slice Ao31 t634.length co31, .int .i64 0]) ?_ 2 _ rfl; refine SK ?_; refine blk_put (cs := #[.slice Ao27 t631.length co27, .slice none 0 0, .int .i64 0]) ?_ 1 _ rfl; refine SK ?_; refine blk_put (cs := #[.slice none 0 0, .slice none 0 0, .int .i64 0]) ?_ 0 _ rfl; exact SK BK639.out) hb) (below_step KB hb); clear HO633 HO636 BK629 BK630 BK639 HB; obtain ⟨HO633, HO636, HO643, HO646, BK629, BK630, BK639, HB⟩ := h_; (try clear hb); (try clear hk); (try clear hi); (try clear ho0); (try clear ho1); obtain ⟨Ao34, co34, eo34⟩ := Kd.R_slice HO643.out; subst eo34; obtain ⟨hcz35_0, hcz35_1, hcz35_2, hfz35_0, hfz35_1, hfz35_2⟩ := C3 BK630.out; obtain ⟨Ao36, co36, eo36⟩ := Kd.R_slice HO646.out; subst eo36))
   refine bodyPost_ret (results_ct rfl _ _ gb630 31 #[.slice Ao34 t641.length co34, .slice Ao36 t644.length co36, .int .i64 t647] (0, 0) _ rfl (by refine SK ?_; refine blk_put (cs := #[.slice Ao34 t641.length co34, .slice Ao36 t644.length co36, .int .i64 0]) ?_ 2 _ rfl; refine SK ?_; refine blk_put (cs := #[.slice Ao34 t641.length co34, .slice none 0 0, .int .i64 0]) ?_ 1 _ rfl; refine SK ?_; refine blk_put (cs := #[.slice none 0 0, .slice none 0 0, .int .i64 0]) ?_ 0 _ rfl; exact SK BK630.out) Try.underlying31 rfl (by kernel_rfl)) rfl ?_
   exact ⟨_, _, KE, RQ (RT HO643.out BK630.out) (hm := fun _ h => h.1.1.1), RQ (RT HO646.out BK630.out) (hm := fun _ h => h.1.1.1), KB⟩
 ·replace c4 := Bool.eq_false_iff.mpr c4
  subst c4
  have H1 : ((impl_storeAsWas.f k l0_0 l0_1 a0_2).bind fun bt648 => (some (bt648.1, bt648.2.1, bt648.2.2, false))) = some (r1, r2, r3, r4) := by rw [if_neg (show ¬ (false = true) by decide)] at H; exact H
  clear H
  have H := H1
  clear H1
  replace H := Option.bind_eq_some_iff.mp H
  obtain ⟨⟨t648, t651, t654⟩, A370, H⟩ := H
  replace H : (some (t648, t651, t654, false)) = some (r1, r2, r3, r4) := H
  have A37 := Aside0.mk A370
  clear A370
  simp only [Option.some.injEq, Prod.mk.injEq] at H
  obtain ⟨rfl, rfl, rfl, rfl⟩ := H
  go_enter Try.func37, Try.ntmps37
  go_wp2_with (first | ((with_reducible refine gate_dst (N := 2) rfl ?_); refine BE 2 #[.slice A0_0 l0_0.length c0_0, .slice A0_1 l0_1.length c0_1, .int .i64 a0_2] 31 ?_; intro gb629 hg w38 hbox hb; have h_ := P4 (below_step KB hb) hbox (KG hg : w.heap.size ≤ gb629) (KG hg : w.heap.size ≤ gb629); clear HB; obtain ⟨HB, BK629, GW629, GE629⟩ := h_; clear hb hbox hg) | ((with_reducible refine gate_dst (N := 4) rfl ?_); refine BE 4 #[.slice none 0 0, .slice none 0 0, .int .i64 0] 31 ?_; intro gb630 hg w39 hbox hb; have h_ := P7 (BL BK629.out hb) (below_step KB hb) hbox (KG hg : w.heap.size ≤ gb630) (KG hg : w.heap.size ≤ gb630) (NX hg BK629.out) (Ne.symm (NX hg BK629.out)); clear BK629 HB; obtain ⟨BK629, HB, BK630, GW630, GE630, NB629_630, NB630_629⟩ := h_; clear hb hbox hg; have hnb40 := NB629_630.out; have hnc40 := NB630_629.out; obtain ⟨hcz41_0, hcz41_1, hcz41_2, hfz41_0, hfz41_1, hfz41_2⟩ := C3 BK629.out) | ((with_reducible refine gate_callee (f := 35) rfl ?_); refine goesL_ (some 10) rfl rfl Try.func35 (by kernel_rfl) rfl #[.agg #[.slice A0_0 l0_0.length c0_0, .slice A0_1 l0_1.length c0_1, .int .i64 a0_2]] rfl KL ?_; (with_reducible refine (impl_StoreSync.calls k _ _ l0_0 _ _ l0_1 a0_2 t631 t634 t637 false _ ?side1 ?side2 ?side3 ?side4 A3.out).mono ?_); (case side1 => exact KD (Kd.C_below HR0_0.out HB.out)); (case side2 => exact HC0_0.out); (case side3 => exact KD (Kd.C_below HR0_1.out HB.out)); (case side4 => exact HC0_1.out); rintro e w42 ⟨v632, v635, rfl, ho0, ho1, hb⟩; refine ⟨_, rfl, ?_⟩; have h_ := P5 (Kd.R_lower ho0 (below_size KB)) (Kd.R_lower ho1 (below_size KB)) (BL BK629.out hb) (BL BK630.out hb) (below_step KB hb); clear BK629 BK630 HB; obtain ⟨HO633, HO636, BK629, BK630, HB⟩ := h_; (try clear hb); (try clear hk); (try clear hi); (try clear ho0); (try clear ho1)) | ((with_reducible refine gate_dst (N := 6) rfl ?_); refine BE 6 #[.slice none 0 0, .slice none 0 0, .int .i64 0] 31 ?_; intro gb639 hg w43 hbox hb; have h_ := P12 (Kd.R_below (KR HO633.out) hb) (Kd.R_below (KR HO636.out) hb) (BL BK629.out hb) (BL BK630.out hb) (below_step KB hb) hbox (KG hg : w.heap.size ≤ gb639) (KG hg : w.heap.size ≤ gb639) (NX hg BK629.out) (Ne.symm (NX hg BK629.out)) (NX hg BK630.out) (Ne.symm (NX hg BK630.out)); clear HO633 HO636 BK629 BK630 HB; obtain ⟨HO633, HO636, BK629, BK630, HB, BK639, GW639, GE639, NB629_639, NB639_629, NB630_639, NB639_630⟩ := h_; clear hb hbox hg; obtain ⟨Ao44, co44, eo44⟩ := Kd.R_slice HO633.out; subst eo44; have hnb45 := NB639_629.out; have hnc45 := NB629_639.out; have hnb46 := NB639_630.out; have hnc46 := NB630_639.out; obtain ⟨hcz47_0, hcz47_1, hcz47_2, hfz47_0, hfz47_1, hfz47_2⟩ := C3 BK639.out; obtain ⟨Ao48, co48, eo48⟩ := Kd.R_slice HO636.out; subst eo48; obtain ⟨hcz49_0, hcz49_1, hcz49_2, hfz49_0, hfz49_1, hfz49_2⟩ := C3 BK629.out) | ((with_reducible refine gate_callee (f := 46) rfl ?_); refine goesL_ (some 21) rfl rfl Try.func46 (by kernel_rfl) rfl #[.agg #[.slice A0_0 l0_0.length c0_0, .slice A0_1 l0_1.length c0_1, .int .i64 a0_2]] rfl KL ?_; (with_reducible refine (impl_storeAsWas.calls k _ _ l0_0 _ _ l0_1 a0_2 t648 t651 t654 _ ?side1 ?side2 ?side3 ?side4 A37.out).mono ?_); (case side1 => exact Kd.C_below HR0_0.out KB); (case side2 => exact HC0_0.out); (case side3 => exact Kd.C_below HR0_1.out KB); (case side4 => exact HC0_1.out); rintro e w50 ⟨v649, v652, rfl, ho0, ho1, hb⟩; refine ⟨_, rfl, ?_⟩; have h_ := P8 (Kd.R_mono (Kd.R_told (Kd.R_told (Kd.R_old (RQ (RT HO633.out BK639.out)) hb) (Kd.R_base ho0)) (Kd.R_base ho1)) (fun _ h_ => h_.1)) (Kd.R_mono (Kd.R_told (Kd.R_told (Kd.R_old (RQ (RT HO636.out BK639.out)) hb) (Kd.R_base ho0)) (Kd.R_base ho1)) (fun _ h_ => h_.1)) (Kd.R_lower (Kd.R_new' (Kd.R_new' ho0 (Kd.R_lt (RQ (RT HO633.out BK639.out)))) (Kd.R_lt (RQ (RT HO636.out BK639.out)))) (below_size KB)) (Kd.R_lower (Kd.R_new' (Kd.R_new' ho1 (Kd.R_lt (RQ (RT HO633.out BK639.out)))) (Kd.R_lt (RQ (RT HO636.out BK639.out)))) (below_size KB)) (BL BK629.out hb) (BL BK630.out hb) (blk_below (g := gb639) (o := .cells #[.slice Ao44 t631.length co44, .slice Ao48 t634.length co48, .int .i64 t637] 31 (0, 0)) (by refine SK ?_; refine blk_put (cs := #[.slice Ao44 t631.length co44, .slice Ao48 t634.length co48, .int .i64 0]) ?_ 2 _ rfl; refine SK ?_; refine blk_put (cs := #[.slice Ao44 t631.length co44, .slice none 0 0, .int .i64 0]) ?_ 1 _ rfl; refine SK ?_; refine blk_put (cs := #[.slice none 0 0, .slice none 0 0, .int .i64 0]) ?_ 0 _ rfl; exact SK BK639.out) hb) (below_step KB hb); clear HO633 HO636 BK629 BK630 BK639 HB; obtain ⟨HO633, HO636, HO650, HO653, BK629, BK630, BK639, HB⟩ := h_; (try clear hb); (try clear hk); (try clear hi); (try clear ho0); (try clear ho1); obtain ⟨Ao51, co51, eo51⟩ := Kd.R_slice HO650.out; subst eo51; obtain ⟨hcz52_0, hcz52_1, hcz52_2, hfz52_0, hfz52_1, hfz52_2⟩ := C3 BK630.out; obtain ⟨Ao53, co53, eo53⟩ := Kd.R_slice HO653.out; subst eo53))
  refine bodyPost_ret (results_ct rfl _ _ gb630 31 #[.slice Ao51 t648.length co51, .slice Ao53 t651.length co53, .int .i64 t654] (0, 0) _ rfl (by refine SK ?_; refine blk_put (cs := #[.slice Ao51 t648.length co51, .slice Ao53 t651.length co53, .int .i64 0]) ?_ 2 _ rfl; refine SK ?_; refine blk_put (cs := #[.slice Ao51 t648.length co51, .slice none 0 0, .int .i64 0]) ?_ 1 _ rfl; refine SK ?_; refine blk_put (cs := #[.slice none 0 0, .slice none 0 0, .int .i64 0]) ?_ 0 _ rfl; exact SK BK630.out) Try.underlying31 rfl (by kernel_rfl)) rfl ?_
  exact ⟨_, _, KE, RQ (RT HO650.out BK630.out) (hm := fun _ h => h.1.1.1), RQ (RT HO653.out BK630.out) (hm := fun _ h => h.1.1.1), KB⟩

/-! ### impl_PlaceMake: function 39 -/
def impl_PlaceMake.f (a0 : Int) (a1 : Int) : Option (Int × Bool) := (impl_isEpoch.f a0).bind fun t655 => (if t655 = true then ((impl_isOff.f a1).bind fun t656 => (if t656 = true then (some (wrap64 ((wrap64 (4294967296 * a0)) + a1), true)) else (some (0, false)))) else (some (0, false)))
set_option maxHeartbeats 8000000 in
set_option maxRecDepth 100000 in
theorem impl_PlaceMake.calls (a0 : Int) (a1 : Int) (r1 : Int) (r2 : Bool) (w : World) (h : impl_PlaceMake.f a0 a1 = some (r1, r2)) :
  Calls Try.prog 39 #[.int .i64 a0, .int .i64 a1] w fun e w' => e = .returned (.tuple #[.int .i64 r1, .bool r2]) ∧ Drawn0 w w' := by
 have H : ((impl_isEpoch.f a0).bind fun t655 => (if t655 = true then ((impl_isOff.f a1).bind fun t656 => (if t656 = true then (some (wrap64 ((wrap64 (4294967296 * a0)) + a1), true)) else (some (0, false)))) else (some (0, false)))) = some (r1, r2) := h
 clear h
 replace H := Option.bind_eq_some_iff.mp H
 obtain ⟨t655, A30, H⟩ := H
 replace H : (if t655 = true then ((impl_isOff.f a1).bind fun t656 => (if t656 = true then (some (wrap64 ((wrap64 (4294967296 * a0)) + a1), true)) else (some (0, false)))) else (some (0, false))) = some (r1, r2) := H
 have A3 := Aside0.mk A30
 clear A30
 by_cases c4 : t655 = true
 ·subst c4
  have H1 : ((impl_isOff.f a1).bind fun t656 => (if t656 = true then (some (wrap64 ((wrap64 (4294967296 * a0)) + a1), true)) else (some (0, false)))) = some (r1, r2) := by rw [if_pos rfl] at H; exact H
  clear H
  have H := H1
  clear H1
  replace H := Option.bind_eq_some_iff.mp H
  obtain ⟨t656, A50, H⟩ := H
  replace H : (if t656 = true then (some (wrap64 ((wrap64 (4294967296 * a0)) + a1), true)) else (some (0, false))) = some (r1, r2) := H
  have A5 := Aside0.mk A50
  clear A50
  by_cases c6 : t656 = true
  ·subst c6
   have H1 : (some (wrap64 ((wrap64 (4294967296 * a0)) + a1), true)) = some (r1, r2) := by rw [if_pos rfl] at H; exact H
   clear H
   have H := H1
   clear H1
   simp only [Option.some.injEq, Prod.mk.injEq] at H
   obtain ⟨rfl, rfl⟩ := H
   go_enter Try.func39, Try.ntmps39
   go_wp2_with (first | ((with_reducible refine gate_callee (f := 75) rfl ?_); refine goesL_ (some 7) rfl rfl Try.func75 (by kernel_rfl) rfl #[.int .i64 a0] rfl KL ?_; (with_reducible refine (impl_isEpoch.calls a0 true _ A3.out).mono ?_); rintro e w' ⟨rfl, ⟨nd, rfl⟩⟩; refine ⟨_, rfl, ?_⟩) | (go_at_call 76; (with_reducible refine (impl_isOff.calls a1 true _ A5.out).mono ?_); rintro e w' ⟨rfl, ⟨nd, rfl⟩⟩))
   go_ret2
   exact ⟨by first | rfl | (simp; done) | (simp [*]; done), by repeat (first | exact Drawn0.refl _ | apply Drawn0.step)⟩
  ·replace c6 := Bool.eq_false_iff.mpr c6
   subst c6
   have H1 : (some (0, false)) = some (r1, r2) := by rw [if_neg (show ¬ (false = true) by decide)] at H; exact H
   clear H
   have H := H1
   clear H1
   simp only [Option.some.injEq, Prod.mk.injEq] at H
   obtain ⟨rfl, rfl⟩ := H
   go_enter Try.func39, Try.ntmps39
   go_wp2_with (first | ((with_reducible refine gate_callee (f := 75) rfl ?_); refine goesL_ (some 7) rfl rfl Try.func75 (by kernel_rfl) rfl #[.int .i64 a0] rfl KL ?_; (with_reducible refine (impl_isEpoch.calls a0 true _ A3.out).mono ?_); rintro e w' ⟨rfl, ⟨nd, rfl⟩⟩; refine ⟨_, rfl, ?_⟩) | (go_at_call 76; (with_reducible refine (impl_isOff.calls a1 false _ A5.out).mono ?_); rintro e w' ⟨rfl, ⟨nd, rfl⟩⟩))
   go_ret2
   exact ⟨by first | rfl | (simp; done) | (simp [*]; done), by repeat (first | exact Drawn0.refl _ | apply Drawn0.step)⟩
 ·replace c4 := Bool.eq_false_iff.mpr c4
  subst c4
  have H1 : (some (0, false)) = some (r1, r2) := by rw [if_neg (show ¬ (false = true) by decide)] at H; exact H
  clear H
  have H := H1
  clear H1
  simp only [Option.some.injEq, Prod.mk.injEq] at H
  obtain ⟨rfl, rfl⟩ := H
  go_enter Try.func39, Try.ntmps39
  go_wp2_with (first | ((with_reducible refine gate_callee (f := 75) rfl ?_); refine goesL_ (some 7) rfl rfl Try.func75 (by kernel_rfl) rfl #[.int .i64 a0] rfl KL ?_; (with_reducible refine (impl_isEpoch.calls a0 false _ A3.out).mono ?_); rintro e w' ⟨rfl, ⟨nd, rfl⟩⟩; refine ⟨_, rfl, ?_⟩))
  go_ret2
  exact ⟨by first | rfl | (simp; done) | (simp [*]; done), by repeat (first | exact Drawn0.refl _ | apply Drawn0.step)⟩

end Go.Proofs.Ytnoghojlpicecaa.PFnSealed
