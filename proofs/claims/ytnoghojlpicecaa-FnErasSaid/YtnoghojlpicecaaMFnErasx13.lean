-- What each Go function that this law reaches comes to: written by a program out of the translation.
import Derived.Test.YtnoghojlpicecaaMFnErasx0
import Derived.Test.YtnoghojlpicecaaMFnErasx1
import Derived.Test.YtnoghojlpicecaaMFnErasx2
import Derived.Test.YtnoghojlpicecaaMFnErasx4
import Derived.Test.YtnoghojlpicecaaMFnErasx5
import Derived.Test.YtnoghojlpicecaaMFnErasx6
import Derived.Test.YtnoghojlpicecaaMFnErasx7
import Derived.Test.YtnoghojlpicecaaMFnErasx12
namespace Go.Proofs.Ytnoghojlpicecaa.PFnEras
open Go.RowKit Go.Proofs.YtnoghojlpicecaaW.PrintWords Go.Proofs.YtnoghojlpicecaaW.PrintLast Go.Proofs.YtnoghojlpicecaaW.PrintMore
attribute [local go_sem] max2_int min2_int max_two min_two max_three min_three max_four min_four   -- for this text's walks alone
set_option linter.unusedVariables false
set_option linter.unusedSimpArgs false

attribute [local go_sem high] eqA35
/-! ### spec_DrawStoreEra: function 21 -/
def spec_DrawStoreEra.f (k : Nat) (l0 : List Int) : Option ((List (S35)) × (List (S35)) × Int × Int) := (spec_l1New.f k l0).bind fun bt535 => ((spec_l6Draw.f k bt535.1 bt535.2.1 bt535.2.2).bind fun bt539 => ((spec_l1Below.f bt535.1 bt539.2.2.2.1 bt539.2.2.2.2 5).bind fun bt549 => (some (bt539.1, bt539.2.1, bt539.2.2.1, bt549.1))))
theorem spec_DrawStoreEra.mono : ∀ a0 k, LeO (spec_DrawStoreEra.f k a0) (spec_DrawStoreEra.f (k + 1) a0) := by
 intro a0 k
 unfold spec_DrawStoreEra.f
 repeat' first
   | (with_reducible exact spec_l1New.mono _ _)
   | (with_reducible exact spec_l6Draw.mono _ _ _ _)
   | (with_reducible exact LeO.refl _)
   | (with_reducible exact LeO.none _)
   | (with_reducible refine LeO.ite ?_ ?_)
   | (with_reducible refine LeO.bind ?_ (fun _ => ?_))
   | exact spec_l1New.mono _ _
   | exact spec_l6Draw.mono _ _ _ _
   | exact LeO.none _
   | refine LeO.ite ?_ ?_
   | refine LeO.bind ?_ (fun _ => ?_)
set_option maxHeartbeats 8000000 in
set_option maxRecDepth 100000 in
theorem spec_DrawStoreEra.calls (k : Nat) (A0 : Option Addr) (c0 : Nat) (l0 : List Int) (r1 : List (S35)) (r2 : List (S35)) (r3 : Int) (r4 : Int) (w : World) (hr0 : Kd.C (Kd.int .u8) w A0 l0.length l0) (hc0 : l0.length ≤ c0) (h : spec_DrawStoreEra.f k l0 = some (r1, r2, r3, r4)) :
  Calls Try.prog 21 #[.slice A0 l0.length c0] w fun e w' => ∃ v0_ v1_ : Value, e = .returned (.tuple #[.agg #[v0_, v1_, .int .i64 r3], .int .i64 r4]) ∧ Kd.R k35 35 w' w.heap.size (fun k_ => some k_ ≠ (v1_ : Value).ownBlock) v0_ r1 ∧ Kd.R k35 35 w' w.heap.size (fun k_ => some k_ ≠ (v0_ : Value).ownBlock) v1_ r2 ∧ Below w.heap.size w w' := by
 have hu31 := Try.underlying31; have HR0 := Aside0.mk hr0; have HC0 := Aside0.mk hc0; clear hr0 hc0; have HB := Aside0.mk (Below.refl w.heap.size w); have H : ((spec_l1New.f k l0).bind fun bt535 => ((spec_l6Draw.f k bt535.1 bt535.2.1 bt535.2.2).bind fun bt539 => ((spec_l1Below.f bt535.1 bt539.2.2.2.1 bt539.2.2.2.2 5).bind fun bt549 => (some (bt539.1, bt539.2.1, bt539.2.2.1, bt549.1))))) = some (r1, r2, r3, r4) := h; clear h; replace H := Option.bind_eq_some_iff.mp H; obtain ⟨⟨t535, t536, t537⟩, A20, H⟩ := H
 try dsimp only at H
 have A2 := Aside0.mk A20; clear A20; replace H := Option.bind_eq_some_iff.mp H; obtain ⟨⟨t539, t542, t545, t546, t547⟩, A30, H⟩ := H
 try dsimp only at H
 have A3 := Aside0.mk A30; clear A30; replace H := Option.bind_eq_some_iff.mp H; obtain ⟨⟨t549, t550, t551⟩, A40, H⟩ := H
 try dsimp only at H
 have A4 := Aside0.mk A40; clear A40; simp only [Option.some.injEq, Prod.mk.injEq] at H; obtain ⟨rfl, rfl, rfl, rfl⟩ := H
 go_enter Try.func21, Try.ntmps21
 try go_wp2_with (first | ((with_reducible refine GD 2 ?_); refine BE 2 #[.slice none 0 0, .slice none 0 0, .int .i64 0] 31 ?_; intro gb534 hg w5 hbox hb; have h_ := PB w hb hbox hg; clear HB; obtain ⟨HB, BK534, GW534, GE534⟩ := h_; clear hb hbox hg) | ((with_reducible refine GC 55 ?_); refine goesL_ (some 7) rfl rfl Try.func55 (by kernel_rfl) rfl #[.slice A0 l0.length c0] rfl KL ?_; (with_reducible refine (spec_l1New.calls k _ _ l0 t535 t536 t537 w _ ?side1 ?side2 ?side3 A2.out).mono ?_); (case side1 => exact KB); (case side2 => exact HR0.out); (case side3 => exact HC0.out); rintro e w6 ⟨g538, rfl, hi, hb, hb2⟩; refine ⟨_, rfl, ?_⟩; have h_ := P5 (BL BK534.out hb2) hb hi (IsS87.ne_blk hi (BL BK534.out hb2) (by decide)) (Ne.symm (IsS87.ne_blk hi (BL BK534.out hb2) (by decide))); clear BK534 HB; obtain ⟨BK534, HB, HI538, NB538_534, NB534_538⟩ := h_; (try clear hb); (try clear hk); (try clear hi)) | ((with_reducible refine GC 56 ?_); refine goesL_ (some 9) rfl rfl Try.func56 (by kernel_rfl) rfl #[.pointer (some ⟨g538, 0, none⟩)] rfl KL ?_; (with_reducible refine (spec_l6Draw.calls k g538 t535 t536 t537 t539 t542 t545 t546 t547 w _ ?side1 ?side2 A3.out).mono ?_); (case side1 => exact KI87); (case side2 => exact KB87); rintro e w7 ⟨v540, v543, rfl, ho0, ho1, hi, hb, hk⟩; refine ⟨_, rfl, ?_⟩; have h_ := P5 (KW BK534.out hk NB534_538.out) (Kd.R_lower ho0 (below_size KB87)) (Kd.R_lower ho1 (below_size KB87)) hb hi; clear BK534 HB HI538; obtain ⟨BK534, HO541, HO544, HB, HI538⟩ := h_; (try clear hb); (try clear hk); (try clear hi); (try clear ho0); (try clear ho1)) | ((with_reducible refine GD 5 ?_); refine BE 5 #[.slice none 0 0, .slice none 0 0, .int .i64 0] 31 ?_; intro gb548 hg w8 hbox hb; have h_ := P12 (Kd.R_below (KR HO541.out) hb) (Kd.R_below (KR HO544.out) hb) (BL BK534.out hb) (IsS87.below (KI87) hb) (below_step KB87 hb) hbox (by rw [hg]; exact (below_size KB87) : w.heap.size ≤ gb548) (by rw [hg]; exact (below_size KB87) : w.heap.size ≤ gb548) (NX hg BK534.out) (NY hg BK534.out) (by rw [hg]; exact Nat.ne_of_lt (IsS87.lt (show IsS87 w _ g538 t535 t546 t547 from KI87)) : g538 ≠ gb548) (by rw [hg]; exact Nat.ne_of_gt (IsS87.lt (show IsS87 w _ g538 t535 t546 t547 from KI87)) : gb548 ≠ g538); clear HO541 HO544 BK534 HI538 HB; obtain ⟨HO541, HO544, BK534, HI538, HB, BK548, GW548, GE548, NB534_548, NB548_534, NB538_548, NB548_538⟩ := h_; clear hb hbox hg; obtain ⟨Ao9, co9, eo9⟩ := Kd.R_slice HO541.out; subst eo9; have hnb10 := NB548_534.out; have hnc10 := NB534_548.out; have hnb11 := NB548_538.out; have hnc11 := NB538_548.out; obtain ⟨hcz12_0, hcz12_1, hcz12_2, hfz12_0, hfz12_1, hfz12_2⟩ := C3 BK548.out; obtain ⟨Ao13, co13, eo13⟩ := Kd.R_slice HO544.out; subst eo13))
 have n0_ : Aside0 (Kd.R k35 35 (((w8.setCell ⟨gb548, 0, none⟩ (.slice Ao9 t539.length co9)).setCell ⟨gb548, 1, none⟩ (.slice Ao13 t542.length co13)).setCell ⟨gb548, 2, none⟩ (.int .i64 t545)) w.heap.size (fun k_ => some k_ ≠ (.slice Ao13 t542.length co13 : Value).ownBlock) (.slice Ao9 t539.length co9) t539) := ⟨RQ (RT HO541.out BK548.out)⟩; have n1_ : Aside0 (Kd.R k35 35 (((w8.setCell ⟨gb548, 0, none⟩ (.slice Ao9 t539.length co9)).setCell ⟨gb548, 1, none⟩ (.slice Ao13 t542.length co13)).setCell ⟨gb548, 2, none⟩ (.int .i64 t545)) w.heap.size (fun k_ => some k_ ≠ (.slice Ao9 t539.length co9 : Value).ownBlock) (.slice Ao13 t542.length co13) t542) := ⟨RQ (RT HO544.out BK548.out)⟩; have n2_ : Aside0 ((((w8.setCell ⟨gb548, 0, none⟩ (.slice Ao9 t539.length co9)).setCell ⟨gb548, 1, none⟩ (.slice Ao13 t542.length co13)).setCell ⟨gb548, 2, none⟩ (.int .i64 t545)).heap[gb534]? = some (.cells #[.slice none 0 0, .slice none 0 0, .int .i64 0] 31 (0, 0))) := ⟨KK⟩; have n3_ : Aside0 ((((w8.setCell ⟨gb548, 0, none⟩ (.slice Ao9 t539.length co9)).setCell ⟨gb548, 1, none⟩ (.slice Ao13 t542.length co13)).setCell ⟨gb548, 2, none⟩ (.int .i64 t545)).heap[gb548]? = some (.cells #[.slice Ao9 t539.length co9, .slice Ao13 t542.length co13, .int .i64 t545] 31 (0, 0))) := ⟨by refine SK ?_; refine BP #[.slice Ao9 t539.length co9, .slice Ao13 t542.length co13, .int .i64 0] ?_ 2; refine SK ?_; refine BP #[.slice Ao9 t539.length co9, .slice none 0 0, .int .i64 0] ?_ 1; refine SK ?_; refine BP #[.slice none 0 0, .slice none 0 0, .int .i64 0] ?_ 0; exact SK BK548.out⟩; have n4_ : Aside0 (IsS87 w (((w8.setCell ⟨gb548, 0, none⟩ (.slice Ao9 t539.length co9)).setCell ⟨gb548, 1, none⟩ (.slice Ao13 t542.length co13)).setCell ⟨gb548, 2, none⟩ (.int .i64 t545)) g538 t535 t546 t547) := ⟨KI87⟩; have n5_ : Aside0 (Below w.heap.size w (((w8.setCell ⟨gb548, 0, none⟩ (.slice Ao9 t539.length co9)).setCell ⟨gb548, 1, none⟩ (.slice Ao13 t542.length co13)).setCell ⟨gb548, 2, none⟩ (.int .i64 t545))) := ⟨KB87⟩; (try clear HO541); (try clear HO544); (try clear BK534); (try clear BK548); (try clear HI538); (try clear HB); generalize (((w8.setCell ⟨gb548, 0, none⟩ (.slice Ao9 t539.length co9)).setCell ⟨gb548, 1, none⟩ (.slice Ao13 t542.length co13)).setCell ⟨gb548, 2, none⟩ (.int .i64 t545)) = w14 at n0_ n1_ n2_ n3_ n4_ n5_ ⊢; have HO541 := n0_; have HO544 := n1_; have BK534 := n2_; have BK548 := n3_; have HI538 := n4_; have HB := n5_; clear n0_ n1_ n2_ n3_ n4_ n5_; have h_ := P6 (Kd.R_drew HO541.out) (Kd.R_drew HO544.out) (blk_drew BK534.out) (blk_drew BK548.out) (IsS87.drew HI538.out) (below_drew1 HB.out); clear HO541 HO544 BK534 BK548 HI538 HB; obtain ⟨HO541, HO544, BK534, BK548, HI538, HB⟩ := h_; refine start_ (n := 5) (S := fun w' => w'.cell? ⟨gb548, 0, none⟩ = some (.slice Ao9 t539.length co9) ∧ w'.cell? ⟨gb548, 1, none⟩ = some (.slice Ao13 t542.length co13) ∧ w'.cell? ⟨gb548, 2, none⟩ = some (.int .i64 t545)) (ds := []) #[F, F, F, F, F] (by kernel_rfl) rfl rfl ⟨(blk_cell BK548.out 0).trans rfl, (blk_cell BK548.out 1).trans rfl, (blk_cell BK548.out 2).trans rfl⟩ (fun hHeld => ?_); generalize w14.drew = w15 at HO541 HO544 BK534 BK548 HI538 HB hHeld ⊢; refine pure_ (i := 1) (N := some 11) (v := ?_) (a' := ?_) #[F, T, F, F, F] rfl rfl (by kernel_rfl) (fun _ _ _ h => h) (Or.inl ⟨by rfl, ?_⟩) ?_ ?_; rotate_left
 ·exact KV
 rotate_left
 ·exact KA
 refine take_ (i := 0) (N := some 10) (v := ?_) (a' := ?_) #[T, T, F, F, F] rfl rfl (by kernel_rfl) (fun _ _ _ h => h) (Or.inl ⟨by rfl, ?_⟩) hHeld ?_ ?_; rotate_left
 ·rintro w' ⟨s0, s1, s2⟩
  go_simp; with_reducible rfl
 rotate_left
 ·exact KA
 refine one_ (i := 2) (N := some 12) #[T, T, T, F, F] rfl rfl (by kernel_rfl) (by decide) (fun K hK => ?_); refine goes_ Try.func57 (by kernel_rfl) rfl #[.pointer (some ⟨g538, 0, none⟩), .int .i64 5] (by rfl) rfl rfl KL ?_; (with_reducible refine (spec_l1Below.calls g538 t535 t546 t547 5 t549 t550 t551 w _ ?side1 ?side2 A4.out).mono ?_); (case side1 => exact KI87); (case side2 => exact KB87); rintro e w16 ⟨rfl, hi, hb, hk⟩; refine ⟨_, rfl, ?_⟩; have h_ := P6 (KW BK534.out hk NB534_538.out) (Kd.R_mono (Kd.R_keep (IsS87.apart (show IsS87 w _ g538 t535 t546 t547 from KI87) (KR HO541.out) (by decide)) hk (fun _ h => h.2)) (fun _ h => h.1)) (Kd.R_mono (Kd.R_keep (IsS87.apart (show IsS87 w _ g538 t535 t546 t547 from KI87) (KR HO544.out) (by decide)) hk (fun _ h => h.2)) (fun _ h => h.1)) (KW BK548.out hk NB548_538.out) hb hi; clear BK534 HO541 HO544 BK548 HB HI538; obtain ⟨BK534, HO541, HO544, BK548, HB, HI538⟩ := h_; (try clear hb); (try clear hk); (try clear hi); refine hK.out _ _ (D3 BK548.out) (fun hHeld => ?_); clear hK K; refine norm_ (a' := ?_) ?_ ?_; rotate_left
 ·show Act.put _ (some 12) _ = _; exact KA
 refine one_ (i := 3) (N := none) #[T, T, T, T, F] rfl rfl (by kernel_rfl) (by decide) (fun K hK => ?_); have hs17 : w16.cell? ⟨gb534, 0, none⟩ = some (.slice none 0 0) := (blk_cell BK534.out 0).trans rfl; have hfs17 := blk_frozen BK534.out 0; have hns17_1 := NB548_534.out; have hms17_1 := NB534_548.out; have hs18 : w16.cell? ⟨gb534, 1, none⟩ = some (.slice none 0 0) := (blk_cell BK534.out 1).trans rfl; have hfs18 := blk_frozen BK534.out 1; have hns18_1 := NB548_534.out; have hms18_1 := NB534_548.out; have hs19 : w16.cell? ⟨gb534, 2, none⟩ = some (.int .i64 0) := (blk_cell BK534.out 2).trans rfl; have hfs19 := blk_frozen BK534.out 2; have hns19_1 := NB548_534.out; have hms19_1 := NB534_548.out; refine skip_ (w1 := ?_) (by rfl) rfl ?_ ?_; rotate_left
 ·go_simp
  rfl
 refine hK.out _ _ ⟨((cell_far (p := ⟨gb534, _, none⟩) NB548_534.out _).trans (((cell_far (p := ⟨gb534, _, none⟩) NB548_534.out _).trans (((cell_far (p := ⟨gb534, _, none⟩) NB548_534.out _).trans (hHeld.1)))))), ((cell_far (p := ⟨gb534, _, none⟩) NB548_534.out _).trans (((cell_far (p := ⟨gb534, _, none⟩) NB548_534.out _).trans (((cell_far (p := ⟨gb534, _, none⟩) NB548_534.out _).trans (hHeld.2.1)))))), ((cell_far (p := ⟨gb534, _, none⟩) NB548_534.out _).trans (((cell_far (p := ⟨gb534, _, none⟩) NB548_534.out _).trans (((cell_far (p := ⟨gb534, _, none⟩) NB548_534.out _).trans (hHeld.2.2))))))⟩ (fun hHeld => ?_); clear hK K; refine pure_ (i := 4) (N := some 3) (v := ?_) (a' := ?_) #[T, T, T, T, T] rfl rfl (by kernel_rfl) (fun _ _ _ h => h) (Or.inl ⟨by rfl, ?_⟩) ?_ ?_; rotate_left
 ·exact KV
 rotate_left
 ·exact KA
 refine done_ (by kernel_rfl) ?_
 try go_wp2
 refine bodyPost_ret (results_ct rfl _ _ gb534 31 #[.slice Ao9 t539.length co9, .slice Ao13 t542.length co13, .int .i64 t545] (0, 0) _ rfl (by refine SK ?_; refine BP #[.slice Ao9 t539.length co9, .slice Ao13 t542.length co13, .int .i64 0] ?_ 2; refine SK ?_; refine BP #[.slice Ao9 t539.length co9, .slice none 0 0, .int .i64 0] ?_ 1; refine SK ?_; refine BP #[.slice none 0 0, .slice none 0 0, .int .i64 0] ?_ 0; exact SK BK534.out) Try.underlying31 rfl (by kernel_rfl)) rfl ?_; exact ⟨_, _, KE, RQ (RT HO541.out BK534.out), RQ (RT HO544.out BK534.out), KB87⟩

/-! ### impl_StoreEra: function 22 -/
def impl_StoreEra.l0 : Nat → Int → List (S35) → List (S35) → Int → Int → Option ((List (S35)))
 | 0, _, _, _, _, _ => none
 | k + 1, x1, x5, x14, x15, x16 => if x16 < x15 then (if 0 ≤ x16 then (if x16 < (x14.length : Int) then ((impl_EpochOf.f ((rd_T35 x14 x16).f0)).bind fun t559 => (if t559 = x1 then (if x5.length < 3518437208883 then (impl_StoreEra.l0 k x1 (x5 ++ [(⟨(rd_T35 x14 x16).f0, (rd_T35 x14 x16).f1, (rd_T35 x14 x16).f2, (rd_T35 x14 x16).f3⟩ : S35)]) x14 x15 (wrap64 (x16 + 1))) else (none)) else (impl_StoreEra.l0 k x1 x5 x14 x15 (wrap64 (x16 + 1))))) else (none)) else (none)) else (some x5)
def impl_StoreEra.f (k : Nat) (l0_0 : List (S35)) (l0_1 : List (S35)) (a0_2 : Int) (a1 : Int) : Option ((List (S35))) := (some (([] : List (S35)) : List (S35))).bind fun y553 => ((impl_StoreOk.f k l0_0 l0_1 a0_2).bind fun t556 => (if t556 = true then (impl_StoreEra.l0 k a1 y553 l0_0 (l0_0.length : Int) 0) else (some y553)))
theorem impl_StoreEra.mono_l : ∀ k, (∀ y0 y1 y2 y3 y4, LeO (impl_StoreEra.l0 k y0 y1 y2 y3 y4) (impl_StoreEra.l0 (k + 1) y0 y1 y2 y3 y4))
 | 0 => fun _ _ _ _ _ r h => by simp [impl_StoreEra.l0] at h
 | k + 1 => by
  have ih0 := impl_StoreEra.mono_l k
  ·intro y0 y1 y2 y3 y4
   unfold impl_StoreEra.l0
   repeat' first
   | (with_reducible exact ih0 _ _ _ _ _)
   | (with_reducible exact impl_StoreOk.mono _ _ _ _)
   | (with_reducible exact LeO.refl _)
   | (with_reducible exact LeO.none _)
   | (with_reducible refine LeO.ite ?_ ?_)
   | (with_reducible refine LeO.bind ?_ (fun _ => ?_))
   | exact ih0 _ _ _ _ _
   | exact impl_StoreOk.mono _ _ _ _
   | exact LeO.none _
   | refine LeO.ite ?_ ?_
   | refine LeO.bind ?_ (fun _ => ?_)
theorem impl_StoreEra.mono : ∀ a0 a1 a2 a3 k, LeO (impl_StoreEra.f k a0 a1 a2 a3) (impl_StoreEra.f (k + 1) a0 a1 a2 a3) := by
 intro a0 a1 a2 a3 k; have ih0 := impl_StoreEra.mono_l k
 unfold impl_StoreEra.f
 repeat' first
   | (with_reducible exact ih0 _ _ _ _ _)
   | (with_reducible exact impl_StoreOk.mono _ _ _ _)
   | (with_reducible exact LeO.refl _)
   | (with_reducible exact LeO.none _)
   | (with_reducible refine LeO.ite ?_ ?_)
   | (with_reducible refine LeO.bind ?_ (fun _ => ?_))
   | exact ih0 _ _ _ _ _
   | exact impl_StoreOk.mono _ _ _ _
   | exact LeO.none _
   | refine LeO.ite ?_ ?_
   | refine LeO.bind ?_ (fun _ => ?_)
set_option maxHeartbeats 8000000 in
set_option maxRecDepth 100000 in
theorem impl_StoreEra.calls (k : Nat) (A0_0 : Option Addr) (c0_0 : Nat) (l0_0 : List (S35)) (A0_1 : Option Addr) (c0_1 : Nat) (l0_1 : List (S35)) (a0_2 : Int) (a1 : Int) (r : List (S35)) (w : World) (hr0_0 : Kd.C k35 w A0_0 l0_0.length l0_0) (hc0_0 : l0_0.length ≤ c0_0) (hr0_1 : Kd.C k35 w A0_1 l0_1.length l0_1) (hc0_1 : l0_1.length ≤ c0_1) (h : impl_StoreEra.f k l0_0 l0_1 a0_2 a1 = some r) :
  Calls Try.prog 22 #[.agg #[.slice A0_0 l0_0.length c0_0, .slice A0_1 l0_1.length c0_1, .int .i64 a0_2], .int .i64 a1] w fun e w' => ∃ v0_ : Value, e = .returned (v0_) ∧ Kd.R k35 35 w' w.heap.size (fun _ => True) v0_ r ∧ Below w.heap.size w w' := by
 have hu31 := Try.underlying31; have hu35 := Try.underlying35; have HR0_0 := Aside0.mk hr0_0; have HC0_0 := Aside0.mk hc0_0; clear hr0_0 hc0_0; have HR0_1 := Aside0.mk hr0_1; have HC0_1 := Aside0.mk hc0_1; clear hr0_1 hc0_1; have HB := Aside0.mk (Below.refl w.heap.size w); have H : ((some (([] : List (S35)) : List (S35))).bind fun y553 => ((impl_StoreOk.f k l0_0 l0_1 a0_2).bind fun t556 => (if t556 = true then (impl_StoreEra.l0 k a1 y553 l0_0 (l0_0.length : Int) 0) else (some y553)))) = some r := h; clear h; obtain ⟨y553, hy553⟩ : ∃ y_ : List (S35), y_ = (([] : List (S35))) := ⟨_, rfl⟩; replace H : ((impl_StoreOk.f k l0_0 l0_1 a0_2).bind fun t556 => (if t556 = true then (impl_StoreEra.l0 k a1 y553 l0_0 (l0_0.length : Int) 0) else (some y553))) = some r := by first | (rw [hy553]; with_reducible exact H) | (have H2_ := (Option.bind_some _ _).symm.trans H; rw [hy553]; with_reducible exact H2_) | (have H2_ := (Option.bind_some _ _).symm.trans H; with_reducible exact H2_) | with_reducible exact H | (rw [hy553]; exact H) | exact H
 have Ny553 := Aside0.mk hy553; clear hy553; replace H := Option.bind_eq_some_iff.mp H; obtain ⟨t556, A30, H⟩ := H
 try dsimp only at H
 have A3 := Aside0.mk A30; clear A30
 by_cases c4 : t556 = true
 ·subst c4
  have H1 : (impl_StoreEra.l0 k a1 y553 l0_0 (l0_0.length : Int) 0) = some r := by rw [if_pos rfl] at H; exact H
  clear H; have H := H1; clear H1; have H' := Aside0.mk H; clear H
  go_enter Try.func22, Try.ntmps22
  go_wp2_with (first | ((with_reducible refine GD 2 ?_); refine BE 2 #[.slice A0_0 l0_0.length c0_0, .slice A0_1 l0_1.length c0_1, .int .i64 a0_2] 31 ?_; intro gb552 hg w5 hbox hb; have h_ := PB w hb hbox hg; clear HB; obtain ⟨HB, BK552, GW552, GE552⟩ := h_; clear hb hbox hg) | ((with_reducible refine GD 8 ?_); refine Kd.R_lit k35 _ 35 ?hg (N := 8) ?hd (xs := ([] : List (S35))) (inner := []) (ok := fun _ => True) (okp := fun _ => True) ?hr ?hp (fun _ hk => hk) trivial (Below.refl _ _) (Nat.le_refl _) (by simp) ?_; (case hd => rfl); (case hg => rfl); (case hr => first | (go_simp; done) | (go_simp; rfl)); (case hp => exact (Reps.none _ _)); intro v554 w6 ho7 hb hg_ hnew_; clear hg_ hnew_; (first | rw [← Ny553.out] at ho7 | (simp only [Int.reduceToNat] at ho7; rw [← Ny553.out] at ho7)); have h_ := P3 (Kd.R_lower ho7 (below_size KB)) (BL BK552.out hb) (below_step KB hb); clear BK552 HB; obtain ⟨HO555, BK552, HB⟩ := h_; clear hb ho7; obtain ⟨hcz8_0, hcz8_1, hcz8_2, hfz8_0, hfz8_1, hfz8_2⟩ := C3 BK552.out) | ((with_reducible refine GC 32 ?_); refine goesL_ (some 10) rfl rfl Try.func32 (by kernel_rfl) rfl #[.agg #[.slice A0_0 l0_0.length c0_0, .slice A0_1 l0_1.length c0_1, .int .i64 a0_2]] rfl KL ?_; (with_reducible refine (impl_StoreOk.calls k _ _ l0_0 _ _ l0_1 a0_2 true _ ?side1 ?side2 ?side3 ?side4 A3.out).mono ?_); (case side1 => exact KD (Kd.C_below HR0_0.out HB.out)); (case side2 => exact HC0_0.out); (case side3 => exact KD (Kd.C_below HR0_1.out HB.out)); (case side4 => exact HC0_1.out); rintro e w9 ⟨rfl, hb⟩; refine ⟨_, rfl, ?_⟩; have h_ := P3 (Kd.R_below (KR HO555.out) hb) (BL BK552.out hb) (below_step KB hb); clear HO555 BK552 HB; obtain ⟨HO555, BK552, HB⟩ := h_; (try clear hb); (try clear hk); (try clear hi); obtain ⟨hcz10_0, hcz10_1, hcz10_2, hfz10_0, hfz10_1, hfz10_2⟩ := C3 BK552.out))
  go_loopg [5, 16] k (fun kq v5 v16 w' => ∃ (x5_1 : List (S35)) (x16_1 : Int), v16 = .int .i64 x16_1 ∧ Aside0 (impl_StoreEra.l0 kq a1 x5_1 l0_0 (l0_0.length : Int) x16_1 = some r) ∧ Aside0 (kq ≤ k) ∧ Aside0 (Kd.R k35 35 w' w.heap.size (fun _ => True) v5 x5_1) ∧ Aside0 (w'.heap[gb552]? = some (.cells #[(.slice A0_0 l0_0.length c0_0), (.slice A0_1 l0_1.length c0_1), .int .i64 a0_2] 31 (0, 0))) ∧ Aside0 (Below w.heap.size w w'))
  case atStart => exact ⟨(y553), (0), (by first | rfl | (simp; done) | (simp [*]; done)), H', ⟨Nat.le_refl _⟩, ⟨by (with_reducible repeat (first | apply Kd.R_alloc | apply Kd.R_drewN | apply Kd.R_drew)); exact HO555.out⟩, ⟨KK⟩, ⟨KB⟩⟩
  case round =>
   clear H'
   try clear c2
   try clear p2
   try clear c3
   try clear c4
   try clear hcz10_0
   try clear hcz10_1
   try clear hcz10_2
   try clear hcz8_0
   try clear hcz8_1
   try clear hcz8_2
   try clear hfz10_0
   try clear hfz10_1
   try clear hfz10_2
   try clear hfz8_0
   try clear hfz8_1
   try clear hfz8_2
   obtain ⟨x5_1, x16_1, rfl, HA, HK1, HO_5, BK552, HB⟩ := hrel
   cases gk with
   | zero => exact absurd HA.out (by simp [impl_StoreEra.l0])
   | succ k1 =>
    have H := HA.out; clear HA; simp only [impl_StoreEra.l0] at H
    by_cases c11 : x16_1 < (l0_0.length : Int)
    ·rw [if_pos c11] at H
     have c11b0 : decide (x16_1 < (l0_0.length : Int)) = true := decide_eq_true c11; clear c11
     by_cases c12 : 0 ≤ x16_1
     ·rw [if_pos c12] at H
      have c12b0 : decide (0 ≤ x16_1) = true := decide_eq_true c12; clear c12
      by_cases c13 : x16_1 < (l0_0.length : Int)
      ·rw [if_pos c13] at H
       have c13b0 : decide (x16_1 < (l0_0.length : Int)) = true := decide_eq_true c13; clear c13; replace H := Option.bind_eq_some_iff.mp H; obtain ⟨t559, A140, H⟩ := H
       try dsimp only at H
       have A14 := Aside0.mk A140; clear A140
       by_cases c15 : t559 = a1
       ·rw [if_pos c15] at H
        have c15b0 : (t559 == a1) = true := beq_iff_eq.mpr c15; have c15b1 : (t559 != a1) = false := bne_eq_false_iff_eq.mpr c15; clear c15
        by_cases c16 : x5_1.length < 3518437208883
        ·rw [if_pos c16] at H
         have LMc16 := Aside0.mk c16; clear c16; obtain ⟨y560, hy560⟩ : ∃ y_ : List (S35), y_ = (x5_1 ++ [(⟨(rd_T35 l0_0 x16_1).f0, (rd_T35 l0_0 x16_1).f1, (rd_T35 l0_0 x16_1).f2, (rd_T35 l0_0 x16_1).f3⟩ : S35)]) := ⟨_, rfl⟩; replace H : (impl_StoreEra.l0 k1 a1 y560 l0_0 (l0_0.length : Int) (wrap64 (x16_1 + 1))) = some r := by first | (rw [hy560]; with_reducible exact H) | (have H2_ := (Option.bind_some _ _).symm.trans H; rw [hy560]; with_reducible exact H2_) | (have H2_ := (Option.bind_some _ _).symm.trans H; with_reducible exact H2_) | with_reducible exact H | (rw [hy560]; exact H) | exact H
         have Ny560 := Aside0.mk hy560; clear hy560; have H' := Aside0.mk H; clear H; have p557 : 0 ≤ (x16_1 : Int) := of_decide_eq_true (by first | (with_reducible assumption) | assumption); have q557 : x16_1 < (l0_0.length : Int) := of_decide_eq_true (by first | (with_reducible assumption) | assumption); obtain ⟨ad557, e557, hx557_0, hx557_1, hx557_2, hx557_3⟩ := at_T35 HR0_0.out x16_1 p557 q557
         cases e557
         replace hx557_0 := CB HB.out hx557_0; replace hx557_1 := CB HB.out hx557_1; replace hx557_2 := CB HB.out hx557_2; replace hx557_3 := CB HB.out hx557_3; replace p557 := eq_true p557; replace q557 := eq_true q557
         go_wp2_with (first | ((with_reducible refine GD 7 ?_); refine BE 7 #[.int .i64 0, .int .i64 0, .bool false, .string (⟨#[]⟩ : ByteArray)] 35 ?_; intro gb558 hg w17 hbox hb; have h_ := P8 (Kd.R_below (Kd.R_elderB (KR HO_5.out) gb558 (Nat.le_of_eq hg.symm)) hb) (BL BK552.out hb) (below_step KB hb) hbox (Kg w hg) (Kg w hg) (NX hg BK552.out) (NY hg BK552.out); clear HO_5 BK552 HB; obtain ⟨HO_5, BK552, HB, BK558, GW558, GE558, NB552_558, NB558_552⟩ := h_; clear hb hbox hg; have hnb18 := NB558_552.out; have hnc18 := NB552_558.out; obtain ⟨hcz19_0, hcz19_1, hcz19_2, hcz19_3, hfz19_0, hfz19_1, hfz19_2, hfz19_3⟩ := C4 BK558.out) | ((with_reducible refine GC 26 ?_); refine goesL_ (some 22) rfl rfl Try.func26 (by kernel_rfl) rfl #[.int .i64 ((rd_T35 l0_0 x16_1).f0)] rfl KL ?_; (with_reducible refine MN (impl_EpochOf.calls ((rd_T35 l0_0 x16_1).f0) t559 _ A14.out) ?_); intro nd; refine ⟨_, rfl, ?_⟩) | ((with_reducible refine gate_builtin (b := .append) (xs := #[.tmp 25, .tmp 27]) rfl ?_); at_builtin; refine Kd.R_append k35 (w0 := w) w.heap.size rfl (.tmp 25) (.tmp 27) 29 35 (.agg #[(.int .i64 0), (.int .i64 0), (.bool false), (.string ⟨#[]⟩)]) 40 rfl Try.underlying29 info35 rfl (by decide) (by omega) u5 x5_1 (⟨(rd_T35 l0_0 x16_1).f0, (rd_T35 l0_0 x16_1).f1, (rd_T35 l0_0 x16_1).f2, (rd_T35 l0_0 x16_1).f3⟩ : S35) [.int .i64 ((rd_T35 l0_0 x16_1).f0), .int .i64 ((rd_T35 l0_0 x16_1).f1), .bool ((rd_T35 l0_0 x16_1).f2), .string ((rd_T35 l0_0 x16_1).f3)] (fun k_ => k_ ≠ gb558) (fun _ => False) rfl (by first | (go_simp; done) | (go_simp; rfl)) ?aP (fun _ hk => hk.elim) ?aF ?aO ?aB ?aS ?aL ?_; (case aP => exact k35_mkM _ _ _ (⟨(rd_T35 l0_0 x16_1).f0, (rd_T35 l0_0 x16_1).f1, (rd_T35 l0_0 x16_1).f2, (rd_T35 l0_0 x16_1).f3⟩ : S35)); (case aB => exact KB); (case aF => exact (fun k_ hk => Kd.freshB (g := gb558) (o := .cells #[.int .i64 ((rd_T35 l0_0 x16_1).f0), .int .i64 ((rd_T35 l0_0 x16_1).f1), .bool ((rd_T35 l0_0 x16_1).f2), .string ((rd_T35 l0_0 x16_1).f3)] 35 (0, 0)) (by refine SK ?_; refine BP #[.int .i64 ((rd_T35 l0_0 x16_1).f0), .int .i64 ((rd_T35 l0_0 x16_1).f1), .bool ((rd_T35 l0_0 x16_1).f2), .string (⟨#[]⟩ : ByteArray)] ?_ 3; refine SK ?_; refine BP #[.int .i64 ((rd_T35 l0_0 x16_1).f0), .int .i64 ((rd_T35 l0_0 x16_1).f1), .bool false, .string (⟨#[]⟩ : ByteArray)] ?_ 2; refine SK ?_; refine BP #[.int .i64 ((rd_T35 l0_0 x16_1).f0), .int .i64 0, .bool false, .string (⟨#[]⟩ : ByteArray)] ?_ 1; refine SK ?_; refine BP #[.int .i64 0, .int .i64 0, .bool false, .string (⟨#[]⟩ : ByteArray)] ?_ 0; exact SK BK558.out) k_ hk)); (case aO => exact (RQ (Kd.R_mono HO_5.out (fun k_ hk => (⟨hk, hk.2⟩ : _ ∧ k_ ≠ gb558))) (hm := fun _ h => h.1.2))); (case aS => exact (below_size KB)); (case aL => have := LMc16.out; omega); intro v561 w20 ho hb hg hat; rw [← Ny560.out] at ho; have h_ := P4 (BW BK552.out hg (Kd.R_ne HO_5.out BK552.out (by decide))) (blk_grown (g := gb558) (o := .cells #[.int .i64 ((rd_T35 l0_0 x16_1).f0), .int .i64 ((rd_T35 l0_0 x16_1).f1), .bool ((rd_T35 l0_0 x16_1).f2), .string ((rd_T35 l0_0 x16_1).f3)] 35 (0, 0)) (by refine SK ?_; refine BP #[.int .i64 ((rd_T35 l0_0 x16_1).f0), .int .i64 ((rd_T35 l0_0 x16_1).f1), .bool ((rd_T35 l0_0 x16_1).f2), .string (⟨#[]⟩ : ByteArray)] ?_ 3; refine SK ?_; refine BP #[.int .i64 ((rd_T35 l0_0 x16_1).f0), .int .i64 ((rd_T35 l0_0 x16_1).f1), .bool false, .string (⟨#[]⟩ : ByteArray)] ?_ 2; refine SK ?_; refine BP #[.int .i64 ((rd_T35 l0_0 x16_1).f0), .int .i64 0, .bool false, .string (⟨#[]⟩ : ByteArray)] ?_ 1; refine SK ?_; refine BP #[.int .i64 0, .int .i64 0, .bool false, .string (⟨#[]⟩ : ByteArray)] ?_ 0; exact SK BK558.out) hg (Kd.R_away HO_5.out (fun _ hk => hk.2))) hb ho; clear BK552 BK558 HB HO_5; obtain ⟨BK552, BK558, HB, HO562⟩ := h_; clear ho hb hg hat))
         go_roundg k1
         case measure => have := HK1.out; omega
         case rel => exact ⟨(y560), (wrap64 (x16_1 + 1)), (by first | rfl | (simp; done) | (simp [*]; done)), H', ⟨by have := HK1.out; omega⟩, ⟨by (with_reducible repeat (first | apply Kd.R_alloc | apply Kd.R_drewN | apply Kd.R_drew)); exact Kd.R_mono HO562.out (fun _ hk => trivial)⟩, ⟨KK⟩, ⟨KB⟩⟩
        ·rw [if_neg c16] at H
         exact absurd H (by simp)
       ·rw [if_neg c15] at H
        have c15b0 : (t559 == a1) = false := beq_eq_false_iff_ne.mpr c15; have c15b1 : (t559 != a1) = true := bne_iff_ne.mpr c15; have H' := Aside0.mk H; clear H; have p557 : 0 ≤ (x16_1 : Int) := of_decide_eq_true (by first | (with_reducible assumption) | assumption); have q557 : x16_1 < (l0_0.length : Int) := of_decide_eq_true (by first | (with_reducible assumption) | assumption); obtain ⟨ad557, e557, hx557_0, hx557_1, hx557_2, hx557_3⟩ := at_T35 HR0_0.out x16_1 p557 q557
        cases e557
        replace hx557_0 := CB HB.out hx557_0; replace hx557_1 := CB HB.out hx557_1; replace hx557_2 := CB HB.out hx557_2; replace hx557_3 := CB HB.out hx557_3; replace p557 := eq_true p557; replace q557 := eq_true q557
        go_wp2_with (first | ((with_reducible refine GD 7 ?_); refine BE 7 #[.int .i64 0, .int .i64 0, .bool false, .string (⟨#[]⟩ : ByteArray)] 35 ?_; intro gb558 hg w21 hbox hb; have h_ := P8 (Kd.R_below (Kd.R_elderB (KR HO_5.out) gb558 (Nat.le_of_eq hg.symm)) hb) (BL BK552.out hb) (below_step KB hb) hbox (Kg w hg) (Kg w hg) (NX hg BK552.out) (NY hg BK552.out); clear HO_5 BK552 HB; obtain ⟨HO_5, BK552, HB, BK558, GW558, GE558, NB552_558, NB558_552⟩ := h_; clear hb hbox hg; have hnb22 := NB558_552.out; have hnc22 := NB552_558.out; obtain ⟨hcz23_0, hcz23_1, hcz23_2, hcz23_3, hfz23_0, hfz23_1, hfz23_2, hfz23_3⟩ := C4 BK558.out) | ((with_reducible refine GC 26 ?_); refine goesL_ (some 22) rfl rfl Try.func26 (by kernel_rfl) rfl #[.int .i64 ((rd_T35 l0_0 x16_1).f0)] rfl KL ?_; (with_reducible refine MN (impl_EpochOf.calls ((rd_T35 l0_0 x16_1).f0) t559 _ A14.out) ?_); intro nd; refine ⟨_, rfl, ?_⟩))
        go_roundg k1
        case measure => have := HK1.out; omega
        case rel => exact ⟨(x5_1), (wrap64 (x16_1 + 1)), (by first | rfl | (simp; done) | (simp [*]; done)), H', ⟨by have := HK1.out; omega⟩, ⟨Kd.R_mono (RF (Kd.R_mono HO_5.out (fun k_ hk => (⟨hk, hk.2⟩ : _ ∧ k_ ≠ gb558)))) (fun _ hk => trivial)⟩, ⟨KK⟩, ⟨KB⟩⟩
      ·rw [if_neg c13] at H
       exact absurd H (by simp)
     ·rw [if_neg c12] at H
      exact absurd H (by simp)
    ·rw [if_neg c11] at H
     have c11b0 : decide (x16_1 < (l0_0.length : Int)) = false := decide_eq_false c11; clear c11; obtain rfl := Option.some.inj H
     go_wp2
     go_ret
     exact ⟨_, KE, by (with_reducible repeat (first | apply Kd.R_alloc | apply Kd.R_drewN | apply Kd.R_drew)); exact HO_5.out, KB⟩
 ·replace c4 := Bool.eq_false_iff.mpr c4
  subst c4; have H1 : (some y553) = some r := by rw [if_neg (show ¬ (false = true) by decide)] at H; exact H
  clear H; have H := H1; clear H1; obtain rfl := Option.some.inj H
  go_enter Try.func22, Try.ntmps22
  go_wp2_with (first | ((with_reducible refine GD 2 ?_); refine BE 2 #[.slice A0_0 l0_0.length c0_0, .slice A0_1 l0_1.length c0_1, .int .i64 a0_2] 31 ?_; intro gb552 hg w24 hbox hb; have h_ := PB w hb hbox hg; clear HB; obtain ⟨HB, BK552, GW552, GE552⟩ := h_; clear hb hbox hg) | ((with_reducible refine GD 8 ?_); refine Kd.R_lit k35 _ 35 ?hg (N := 8) ?hd (xs := ([] : List (S35))) (inner := []) (ok := fun _ => True) (okp := fun _ => True) ?hr ?hp (fun _ hk => hk) trivial (Below.refl _ _) (Nat.le_refl _) (by simp) ?_; (case hd => rfl); (case hg => rfl); (case hr => first | (go_simp; done) | (go_simp; rfl)); (case hp => exact (Reps.none _ _)); intro v554 w25 ho26 hb hg_ hnew_; clear hg_ hnew_; (first | rw [← Ny553.out] at ho26 | (simp only [Int.reduceToNat] at ho26; rw [← Ny553.out] at ho26)); have h_ := P3 (Kd.R_lower ho26 (below_size KB)) (BL BK552.out hb) (below_step KB hb); clear BK552 HB; obtain ⟨HO555, BK552, HB⟩ := h_; clear hb ho26; obtain ⟨hcz27_0, hcz27_1, hcz27_2, hfz27_0, hfz27_1, hfz27_2⟩ := C3 BK552.out) | ((with_reducible refine GC 32 ?_); refine goesL_ (some 10) rfl rfl Try.func32 (by kernel_rfl) rfl #[.agg #[.slice A0_0 l0_0.length c0_0, .slice A0_1 l0_1.length c0_1, .int .i64 a0_2]] rfl KL ?_; (with_reducible refine (impl_StoreOk.calls k _ _ l0_0 _ _ l0_1 a0_2 false _ ?side1 ?side2 ?side3 ?side4 A3.out).mono ?_); (case side1 => exact KD (Kd.C_below HR0_0.out HB.out)); (case side2 => exact HC0_0.out); (case side3 => exact KD (Kd.C_below HR0_1.out HB.out)); (case side4 => exact HC0_1.out); rintro e w28 ⟨rfl, hb⟩; refine ⟨_, rfl, ?_⟩; have h_ := P3 (Kd.R_below (KR HO555.out) hb) (BL BK552.out hb) (below_step KB hb); clear HO555 BK552 HB; obtain ⟨HO555, BK552, HB⟩ := h_; (try clear hb); (try clear hk); (try clear hi)))
  go_ret
  exact ⟨_, KE, by (with_reducible repeat (first | apply Kd.R_alloc | apply Kd.R_drewN | apply Kd.R_drew)); exact HO555.out, KB⟩

/-! ### laws_sameEntries: function 23 -/
def laws_sameEntries.l0 : Nat → List (S35) → List (S35) → Int → Option (Bool)
 | 0, _, _, _ => none
 | k + 1, x0, x1, x5 => if x5 < (x0.length : Int) then (if 0 ≤ x5 then (if x5 < (x1.length : Int) then (if (!(((rd_T35 x0 x5).f0) == ((rd_T35 x1 x5).f0)) || (!(((rd_T35 x0 x5).f1) == ((rd_T35 x1 x5).f1)) || (!(((rd_T35 x0 x5).f2) == ((rd_T35 x1 x5).f2)) || (!((((rd_T35 x0 x5).f3).toList) == (((rd_T35 x1 x5).f3).toList)))))) = true then (some false) else (laws_sameEntries.l0 k x0 x1 (wrap64 (x5 + 1)))) else (none)) else (none)) else (some true)
def laws_sameEntries.f (k : Nat) (l0 : List (S35)) (l1 : List (S35)) : Option (Bool) := if (l0.length : Int) = (l1.length : Int) then (laws_sameEntries.l0 k l0 l1 0) else (some false)
theorem laws_sameEntries.mono_l : ∀ k, (∀ y0 y1 y2, LeO (laws_sameEntries.l0 k y0 y1 y2) (laws_sameEntries.l0 (k + 1) y0 y1 y2))
 | 0 => fun _ _ _ r h => by simp [laws_sameEntries.l0] at h
 | k + 1 => by
  have ih0 := laws_sameEntries.mono_l k
  ·intro y0 y1 y2
   unfold laws_sameEntries.l0
   repeat' first
   | (with_reducible exact ih0 _ _ _)
   | (with_reducible exact LeO.refl _)
   | (with_reducible exact LeO.none _)
   | (with_reducible refine LeO.ite ?_ ?_)
   | (with_reducible refine LeO.bind ?_ (fun _ => ?_))
   | exact ih0 _ _ _
   | exact LeO.none _
   | refine LeO.ite ?_ ?_
   | refine LeO.bind ?_ (fun _ => ?_)
theorem laws_sameEntries.mono : ∀ a0 a1 k, LeO (laws_sameEntries.f k a0 a1) (laws_sameEntries.f (k + 1) a0 a1) := by
 intro a0 a1 k; have ih0 := laws_sameEntries.mono_l k
 unfold laws_sameEntries.f
 repeat' first
   | (with_reducible exact ih0 _ _ _)
   | (with_reducible exact LeO.refl _)
   | (with_reducible exact LeO.none _)
   | (with_reducible refine LeO.ite ?_ ?_)
   | (with_reducible refine LeO.bind ?_ (fun _ => ?_))
   | exact ih0 _ _ _
   | exact LeO.none _
   | refine LeO.ite ?_ ?_
   | refine LeO.bind ?_ (fun _ => ?_)
set_option maxHeartbeats 8000000 in
set_option maxRecDepth 100000 in
theorem laws_sameEntries.calls (k : Nat) (A0 : Option Addr) (c0 : Nat) (l0 : List (S35)) (A1 : Option Addr) (c1 : Nat) (l1 : List (S35)) (r : Bool) (w : World) (hr0 : Kd.C k35 w A0 l0.length l0) (hc0 : l0.length ≤ c0) (hr1 : Kd.C k35 w A1 l1.length l1) (hc1 : l1.length ≤ c1) (h : laws_sameEntries.f k l0 l1 = some r) :
  Calls Try.prog 23 #[.slice A0 l0.length c0, .slice A1 l1.length c1] w fun e w' => e = .returned (.bool r) ∧ Drawn0 w w' := by
 have hu35 := Try.underlying35; have HR0 := Aside0.mk hr0; have HC0 := Aside0.mk hc0; clear hr0 hc0; have HR1 := Aside0.mk hr1; have HC1 := Aside0.mk hc1; clear hr1 hc1; have H : (if (l0.length : Int) = (l1.length : Int) then (laws_sameEntries.l0 k l0 l1 0) else (some false)) = some r := h; clear h
 by_cases c3 : (l0.length : Int) = (l1.length : Int)
 ·rw [if_pos c3] at H
  have c3b0 : ((l0.length : Int) == (l1.length : Int)) = true := beq_iff_eq.mpr c3; have c3b1 : ((l0.length : Int) != (l1.length : Int)) = false := bne_eq_false_iff_eq.mpr c3; have c3b2 : (l0.length == l1.length) = true := by first | simpa using c3 | (simp at c3 ⊢; omega)
  clear c3; have H' := Aside0.mk H; clear H
  go_enter Try.func23, Try.ntmps23
  go_wp2
  repeat (go_quiet (fail); try go_wp2)
  go_loopg [5] k (fun kq v5 w' => ∃ (x5_1 : Int), v5 = .int .i64 x5_1 ∧ Aside0 (laws_sameEntries.l0 kq l0 l1 x5_1 = some r) ∧ Aside0 (kq ≤ k) ∧ Drawn0 w w')
  case atStart => exact ⟨(0), (by first | rfl | (simp; done) | (simp [*]; done)), H', ⟨Nat.le_refl _⟩, by repeat (first | exact Drawn0.refl _ | apply Drawn0.step)⟩
  case round =>
   clear H'
   try clear c1
   try clear c2
   try clear p2
   try clear c3
   try clear c3b0
   try clear c3b1
   try clear c3b2
   obtain ⟨x5_1, rfl, HA, HK1, ⟨m1, rfl⟩⟩ := hrel
   cases gk with
   | zero => exact absurd HA.out (by simp [laws_sameEntries.l0])
   | succ k1 =>
    have H := HA.out; clear HA; simp only [laws_sameEntries.l0] at H
    by_cases c4 : x5_1 < (l0.length : Int)
    ·rw [if_pos c4] at H
     have c4b0 : decide (x5_1 < (l0.length : Int)) = true := decide_eq_true c4; clear c4
     by_cases c5 : 0 ≤ x5_1
     ·rw [if_pos c5] at H
      have c5b0 : decide (0 ≤ x5_1) = true := decide_eq_true c5; clear c5
      by_cases c6 : x5_1 < (l1.length : Int)
      ·rw [if_pos c6] at H
       have c6b0 : decide (x5_1 < (l1.length : Int)) = true := decide_eq_true c6; clear c6
       by_cases c7 : (!(((rd_T35 l0 x5_1).f0) == ((rd_T35 l1 x5_1).f0)) || (!(((rd_T35 l0 x5_1).f1) == ((rd_T35 l1 x5_1).f1)) || (!(((rd_T35 l0 x5_1).f2) == ((rd_T35 l1 x5_1).f2)) || (!((((rd_T35 l0 x5_1).f3).toList) == (((rd_T35 l1 x5_1).f3).toList)))))) = true
       ·rw [if_pos c7] at H
        have c7b0 : (!(((rd_T35 l0 x5_1).f0) == ((rd_T35 l1 x5_1).f0)) || (!(((rd_T35 l0 x5_1).f1) == ((rd_T35 l1 x5_1).f1)) || (!(((rd_T35 l0 x5_1).f2) == ((rd_T35 l1 x5_1).f2)) || (!((((rd_T35 l0 x5_1).f3).toList) == (((rd_T35 l1 x5_1).f3).toList)))))) = true := c7; clear c7; obtain rfl := Option.some.inj H; have p563 : 0 ≤ (x5_1 : Int) := of_decide_eq_true (by first | (with_reducible assumption) | assumption); have q563 : x5_1 < (l0.length : Int) := of_decide_eq_true (by first | (with_reducible assumption) | assumption); obtain ⟨ad563, e563, hx563_0, hx563_1, hx563_2, hx563_3⟩ := at_T35 HR0.out x5_1 p563 q563
        cases e563
        replace p563 := eq_true p563; replace q563 := eq_true q563; have p564 : 0 ≤ (x5_1 : Int) := of_decide_eq_true (by first | (with_reducible assumption) | assumption); have q564 : x5_1 < (l1.length : Int) := of_decide_eq_true (by first | (with_reducible assumption) | assumption); obtain ⟨ad564, e564, hx564_0, hx564_1, hx564_2, hx564_3⟩ := at_T35 HR1.out x5_1 p564 q564
        cases e564
        replace p564 := eq_true p564; replace q564 := eq_true q564
        go_wp2
        repeat (go_quiet (fail); try go_wp2)
        go_ret
        exact ⟨by first | rfl | (simp; done) | (simp [*]; done), by repeat (first | exact Drawn0.refl _ | apply Drawn0.step)⟩
       ·rw [if_neg c7] at H
        have c7b0 : (!(((rd_T35 l0 x5_1).f0) == ((rd_T35 l1 x5_1).f0)) || (!(((rd_T35 l0 x5_1).f1) == ((rd_T35 l1 x5_1).f1)) || (!(((rd_T35 l0 x5_1).f2) == ((rd_T35 l1 x5_1).f2)) || (!((((rd_T35 l0 x5_1).f3).toList) == (((rd_T35 l1 x5_1).f3).toList)))))) = false := by simpa using c7
        clear c7; have H' := Aside0.mk H; clear H; have p563 : 0 ≤ (x5_1 : Int) := of_decide_eq_true (by first | (with_reducible assumption) | assumption); have q563 : x5_1 < (l0.length : Int) := of_decide_eq_true (by first | (with_reducible assumption) | assumption); obtain ⟨ad563, e563, hx563_0, hx563_1, hx563_2, hx563_3⟩ := at_T35 HR0.out x5_1 p563 q563
        cases e563
        replace p563 := eq_true p563; replace q563 := eq_true q563; have p564 : 0 ≤ (x5_1 : Int) := of_decide_eq_true (by first | (with_reducible assumption) | assumption); have q564 : x5_1 < (l1.length : Int) := of_decide_eq_true (by first | (with_reducible assumption) | assumption); obtain ⟨ad564, e564, hx564_0, hx564_1, hx564_2, hx564_3⟩ := at_T35 HR1.out x5_1 p564 q564
        cases e564
        replace p564 := eq_true p564; replace q564 := eq_true q564
        go_wp2
        repeat (go_quiet (fail); try go_wp2)
        go_roundg k1
        case measure => have := HK1.out; omega
        case rel => exact ⟨(wrap64 (x5_1 + 1)), (by first | rfl | (simp; done) | (simp [*]; done)), H', ⟨by have := HK1.out; omega⟩, by repeat (first | exact Drawn0.refl _ | apply Drawn0.step)⟩
      ·rw [if_neg c6] at H
       exact absurd H (by simp)
     ·rw [if_neg c5] at H
      exact absurd H (by simp)
    ·rw [if_neg c4] at H
     have c4b0 : decide (x5_1 < (l0.length : Int)) = false := decide_eq_false c4; clear c4; obtain rfl := Option.some.inj H
     go_wp2
     repeat (go_quiet (fail); try go_wp2)
     go_ret
     exact ⟨by first | rfl | (simp; done) | (simp [*]; done), by repeat (first | exact Drawn0.refl _ | apply Drawn0.step)⟩
 ·rw [if_neg c3] at H
  have c3b0 : ((l0.length : Int) == (l1.length : Int)) = false := beq_eq_false_iff_ne.mpr c3; have c3b1 : ((l0.length : Int) != (l1.length : Int)) = true := bne_iff_ne.mpr c3; have c3b2 : (l0.length == l1.length) = false := by first | simpa using c3 | (simp at c3 ⊢; omega)
  obtain rfl := Option.some.inj H
  go_enter Try.func23, Try.ntmps23
  go_wp2
  repeat (go_quiet (fail); try go_wp2)
  go_ret
  exact ⟨by first | rfl | (simp; done) | (simp [*]; done), by repeat (first | exact Drawn0.refl _ | apply Drawn0.step)⟩

/-! ### spec_StoreEra: function 24 -/
mutual
def spec_StoreEra.l0 : Nat → Int → List (S35) → Int → List (S35) → List (S35) → Int → Option ((List (S35)))
 | 0, _, _, _, _, _, _ => none
 | k + 1, x1, x5, x6, x566000, x566001, x566002 => if x6 < (x566000.length : Int) then ((spec_StoreOk.f k x566000 x566001 x566002).bind fun t569 => (spec_StoreEra.j1 k x1 x5 x6 t569 x566000 x566001 x566002)) else (spec_StoreEra.j1 k x1 x5 x6 false x566000 x566001 x566002)
def spec_StoreEra.j1 : Nat → Int → List (S35) → Int → Bool → List (S35) → List (S35) → Int → Option ((List (S35)))
 | 0, _, _, _, _, _, _, _ => none
 | k + 1, x1, x5, x6, x16, x566000, x566001, x566002 => if x16 = true then (if 0 ≤ x6 then (if x6 < (x566000.length : Int) then ((spec_EpochOf.f ((rd_T35 x566000 x6).f0)).bind fun t571 => (if t571 = x1 then (if x5.length < 3518437208883 then (spec_StoreEra.l0 k x1 (x5 ++ [(⟨(rd_T35 x566000 x6).f0, (rd_T35 x566000 x6).f1, (rd_T35 x566000 x6).f2, (rd_T35 x566000 x6).f3⟩ : S35)]) (wrap64 (x6 + 1)) x566000 x566001 x566002) else (none)) else (spec_StoreEra.l0 k x1 x5 (wrap64 (x6 + 1)) x566000 x566001 x566002))) else (none)) else (none)) else (some x5)
end
def spec_StoreEra.f (k : Nat) (l0_0 : List (S35)) (l0_1 : List (S35)) (a0_2 : Int) (a1 : Int) : Option ((List (S35))) := spec_StoreEra.l0 k a1 (([] : List (S35))) 0 l0_0 l0_1 a0_2
theorem spec_StoreEra.mono_l : ∀ k, (∀ y0 y1 y2 y3 y4 y5, LeO (spec_StoreEra.l0 k y0 y1 y2 y3 y4 y5) (spec_StoreEra.l0 (k + 1) y0 y1 y2 y3 y4 y5)) ∧ (∀ y0 y1 y2 y3 y4 y5 y6, LeO (spec_StoreEra.j1 k y0 y1 y2 y3 y4 y5 y6) (spec_StoreEra.j1 (k + 1) y0 y1 y2 y3 y4 y5 y6))
 | 0 => ⟨fun _ _ _ _ _ _ r h => by simp [spec_StoreEra.l0] at h, fun _ _ _ _ _ _ _ r h => by simp [spec_StoreEra.j1] at h⟩
 | k + 1 => by
  obtain ⟨ih0, ih1⟩ := spec_StoreEra.mono_l k; refine ⟨?_, ?_⟩
  ·intro y0 y1 y2 y3 y4 y5
   unfold spec_StoreEra.l0
   repeat' first
   | (with_reducible exact ih0 _ _ _ _ _ _)
   | (with_reducible exact ih1 _ _ _ _ _ _ _)
   | (with_reducible exact spec_StoreOk.mono _ _ _ _)
   | (with_reducible exact LeO.refl _)
   | (with_reducible exact LeO.none _)
   | (with_reducible refine LeO.ite ?_ ?_)
   | (with_reducible refine LeO.bind ?_ (fun _ => ?_))
   | exact ih0 _ _ _ _ _ _
   | exact ih1 _ _ _ _ _ _ _
   | exact spec_StoreOk.mono _ _ _ _
   | exact LeO.none _
   | refine LeO.ite ?_ ?_
   | refine LeO.bind ?_ (fun _ => ?_)
  ·intro y0 y1 y2 y3 y4 y5 y6
   unfold spec_StoreEra.j1
   repeat' first
   | (with_reducible exact ih0 _ _ _ _ _ _)
   | (with_reducible exact ih1 _ _ _ _ _ _ _)
   | (with_reducible exact spec_StoreOk.mono _ _ _ _)
   | (with_reducible exact LeO.refl _)
   | (with_reducible exact LeO.none _)
   | (with_reducible refine LeO.ite ?_ ?_)
   | (with_reducible refine LeO.bind ?_ (fun _ => ?_))
   | exact ih0 _ _ _ _ _ _
   | exact ih1 _ _ _ _ _ _ _
   | exact spec_StoreOk.mono _ _ _ _
   | exact LeO.none _
   | refine LeO.ite ?_ ?_
   | refine LeO.bind ?_ (fun _ => ?_)
theorem spec_StoreEra.mono : ∀ a0 a1 a2 a3 k, LeO (spec_StoreEra.f k a0 a1 a2 a3) (spec_StoreEra.f (k + 1) a0 a1 a2 a3) := by
 intro a0 a1 a2 a3 k; obtain ⟨ih0, ih1⟩ := spec_StoreEra.mono_l k
 unfold spec_StoreEra.f
 repeat' first
   | (with_reducible exact ih0 _ _ _ _ _ _)
   | (with_reducible exact ih1 _ _ _ _ _ _ _)
   | (with_reducible exact spec_StoreOk.mono _ _ _ _)
   | (with_reducible exact LeO.refl _)
   | (with_reducible exact LeO.none _)
   | (with_reducible refine LeO.ite ?_ ?_)
   | (with_reducible refine LeO.bind ?_ (fun _ => ?_))
   | exact ih0 _ _ _ _ _ _
   | exact ih1 _ _ _ _ _ _ _
   | exact spec_StoreOk.mono _ _ _ _
   | exact LeO.none _
   | refine LeO.ite ?_ ?_
   | refine LeO.bind ?_ (fun _ => ?_)
set_option maxHeartbeats 8000000 in
set_option maxRecDepth 100000 in
theorem spec_StoreEra.calls (k : Nat) (A0_0 : Option Addr) (c0_0 : Nat) (l0_0 : List (S35)) (A0_1 : Option Addr) (c0_1 : Nat) (l0_1 : List (S35)) (a0_2 : Int) (a1 : Int) (r : List (S35)) (w : World) (hr0_0 : Kd.C k35 w A0_0 l0_0.length l0_0) (hc0_0 : l0_0.length ≤ c0_0) (hr0_1 : Kd.C k35 w A0_1 l0_1.length l0_1) (hc0_1 : l0_1.length ≤ c0_1) (h : spec_StoreEra.f k l0_0 l0_1 a0_2 a1 = some r) :
  Calls Try.prog 24 #[.agg #[.slice A0_0 l0_0.length c0_0, .slice A0_1 l0_1.length c0_1, .int .i64 a0_2], .int .i64 a1] w fun e w' => ∃ v0_ : Value, e = .returned (v0_) ∧ Kd.R k35 35 w' w.heap.size (fun _ => True) v0_ r ∧ Below w.heap.size w w' := by
 have hu31 := Try.underlying31; have hu35 := Try.underlying35; have HR0_0 := Aside0.mk hr0_0; have HC0_0 := Aside0.mk hc0_0; clear hr0_0 hc0_0; have HR0_1 := Aside0.mk hr0_1; have HC0_1 := Aside0.mk hc0_1; clear hr0_1 hc0_1; have HB := Aside0.mk (Below.refl w.heap.size w); have H : (spec_StoreEra.l0 k a1 (([] : List (S35))) 0 l0_0 l0_1 a0_2) = some r := h; clear h; obtain ⟨y566, hy566⟩ : ∃ y_ : List (S35), y_ = (([] : List (S35))) := ⟨_, rfl⟩; replace H : (spec_StoreEra.l0 k a1 y566 0 l0_0 l0_1 a0_2) = some r := by first | (rw [hy566]; with_reducible exact H) | (have H2_ := (Option.bind_some _ _).symm.trans H; rw [hy566]; with_reducible exact H2_) | (have H2_ := (Option.bind_some _ _).symm.trans H; with_reducible exact H2_) | with_reducible exact H | (rw [hy566]; exact H) | exact H
 have Ny566 := Aside0.mk hy566; clear hy566; have H' := Aside0.mk H; clear H
 go_enter Try.func24, Try.ntmps24
 go_wp2_with (first | ((with_reducible refine GD 2 ?_); refine BE 2 #[.slice A0_0 l0_0.length c0_0, .slice A0_1 l0_1.length c0_1, .int .i64 a0_2] 31 ?_; intro gb565 hg w3 hbox hb; have h_ := PB w hb hbox hg; clear HB; obtain ⟨HB, BK565, GW565, GE565⟩ := h_; clear hb hbox hg) | ((with_reducible refine GD 7 ?_); refine Kd.R_lit k35 _ 35 ?hg (N := 7) ?hd (xs := ([] : List (S35))) (inner := []) (ok := fun _ => True) (okp := fun _ => True) ?hr ?hp (fun _ hk => hk) trivial (Below.refl _ _) (Nat.le_refl _) (by simp) ?_; (case hd => rfl); (case hg => rfl); (case hr => first | (go_simp; done) | (go_simp; rfl)); (case hp => exact (Reps.none _ _)); intro v567 w4 ho5 hb hg_ hnew_; clear hg_ hnew_; (first | rw [← Ny566.out] at ho5 | (simp only [Int.reduceToNat] at ho5; rw [← Ny566.out] at ho5)); have h_ := P3 (Kd.R_lower ho5 (below_size KB)) (BL BK565.out hb) (below_step KB hb); clear BK565 HB; obtain ⟨HO568, BK565, HB⟩ := h_; clear hb ho5))
 go_loopg [5, 6] k (fun kq v5 v6 w' => ∃ (x5_1 : List (S35)) (x6_1 : Int), v6 = .int .i64 x6_1 ∧ Aside0 (spec_StoreEra.l0 kq a1 x5_1 x6_1 l0_0 l0_1 a0_2 = some r) ∧ Aside0 (kq ≤ k) ∧ Aside0 (Kd.R k35 35 w' w.heap.size (fun _ => True) v5 x5_1) ∧ Aside0 (w'.heap[gb565]? = some (.cells #[(.slice A0_0 l0_0.length c0_0), (.slice A0_1 l0_1.length c0_1), .int .i64 a0_2] 31 (0, 0))) ∧ Aside0 (Below w.heap.size w w'))
 case atStart => exact ⟨(y566), (0), (by first | rfl | (simp; done) | (simp [*]; done)), H', ⟨Nat.le_refl _⟩, ⟨by (with_reducible repeat (first | apply Kd.R_alloc | apply Kd.R_drewN | apply Kd.R_drew)); exact HO568.out⟩, ⟨KK⟩, ⟨KB⟩⟩
 case round =>
  clear H'
  try clear c2
  try clear p2
  obtain ⟨x5_1, x6_1, rfl, HA, HK1, HO_5, BK565, HB⟩ := hrel
  cases gk with
  | zero => exact absurd HA.out (by simp [spec_StoreEra.l0])
  | succ k1 =>
   have H := HA.out; clear HA; simp only [spec_StoreEra.l0] at H; have HC6 := Aside0.mk H; clear H
   go_upto_region 3 with (fail)
   go_cut [16] (fun v16 wc => ∃ (kq : Nat) (x16_5 : Bool), v16 = .bool x16_5 ∧ Aside0 (spec_StoreEra.j1 kq a1 x5_1 x6_1 x16_5 l0_0 l0_1 a0_2 = some r) ∧ Aside0 (kq ≤ k1) ∧ Aside0 (Kd.R k35 35 wc w.heap.size (fun _ => True) u5 x5_1) ∧ Aside0 (wc.heap[gb565]? = some (.cells #[(.slice A0_0 l0_0.length c0_0), (.slice A0_1 l0_1.length c0_1), .int .i64 a0_2] 31 (0, 0))) ∧ Aside0 (Below w.heap.size w wc))
   case first =>
    have H := HC6.out; clear HC6
    by_cases c7 : x6_1 < (l0_0.length : Int)
    ·rw [if_pos c7] at H
     have c7b0 : decide (x6_1 < (l0_0.length : Int)) = true := decide_eq_true c7; clear c7; (first | rw [c7b0] | (simp only [i64_w, i32_w]; rw [c7b0]) | skip); replace H := Option.bind_eq_some_iff.mp H; obtain ⟨t569, A80, H⟩ := H
     try dsimp only at H
     have A8 := Aside0.mk A80; clear A80; have H' := Aside0.mk H; clear H; obtain ⟨hcz9_0, hcz9_1, hcz9_2, hfz9_0, hfz9_1, hfz9_2⟩ := C3 BK565.out
     go_wp2_with (first | (go_at_call 34; (with_reducible refine (spec_StoreOk.calls k1 _ _ l0_0 _ _ l0_1 a0_2 t569 _ ?side1 ?side2 ?side3 ?side4 A8.out).mono ?_); (case side1 => exact KD (Kd.C_below HR0_0.out HB.out)); (case side2 => exact HC0_0.out); (case side3 => exact KD (Kd.C_below HR0_1.out HB.out)); (case side4 => exact HC0_1.out); rintro e w10 ⟨rfl, hb⟩; have h_ := P3 (Kd.R_below (KR HO_5.out) hb) (BL BK565.out hb) (below_step KB hb); clear HO_5 BK565 HB; obtain ⟨HO_5, BK565, HB⟩ := h_; (try clear hb); (try clear hk); (try clear hi)))
     go_meet
     case rel => exact ⟨_, (t569), (by first | rfl | (simp; done) | (simp [*]; done)), H', ⟨by have := HK1.out; first | omega | exact Nat.le_refl _⟩, ⟨by (with_reducible repeat (first | apply Kd.R_alloc | apply Kd.R_drewN | apply Kd.R_drew)); exact HO_5.out⟩, ⟨KK⟩, ⟨KB⟩⟩
    ·rw [if_neg c7] at H
     have c7b0 : decide (x6_1 < (l0_0.length : Int)) = false := decide_eq_false c7; clear c7; (first | rw [c7b0] | (simp only [i64_w, i32_w]; rw [c7b0]) | skip); have H' := Aside0.mk H; clear H; obtain ⟨hcz11_0, hcz11_1, hcz11_2, hfz11_0, hfz11_1, hfz11_2⟩ := C3 BK565.out
     go_wp2
     go_meet
     case rel => exact ⟨_, (false), (by first | rfl | (simp; done) | (simp [*]; done)), H', ⟨by have := HK1.out; first | omega | exact Nat.le_refl _⟩, ⟨by (with_reducible repeat (first | apply Kd.R_alloc | apply Kd.R_drewN | apply Kd.R_drew)); exact HO_5.out⟩, ⟨KK⟩, ⟨KB⟩⟩
   case rest =>
    clear HC6
    try clear c2
    try clear p2
    try clear c7
    try clear c7b0
    try clear hcz11_0
    try clear hcz11_1
    try clear hcz11_2
    try clear hcz9_0
    try clear hcz9_1
    try clear hcz9_2
    try clear hfz11_0
    try clear hfz11_1
    try clear hfz11_2
    try clear hfz9_0
    try clear hfz9_1
    try clear hfz9_2
    try clear p2
    obtain ⟨kq, x16_5, rfl, HA, HJ5, HO_5, BK565, HB⟩ := hcut
    cases kq with
    | zero => exact absurd HA.out (by simp [spec_StoreEra.j1])
    | succ kj5 =>
     have H := HA.out; clear HA; simp only [spec_StoreEra.j1] at H
     by_cases c12 : x16_5 = true
     ·subst c12
      have H1 : (if 0 ≤ x6_1 then (if x6_1 < (l0_0.length : Int) then ((spec_EpochOf.f ((rd_T35 l0_0 x6_1).f0)).bind fun t571 => (if t571 = a1 then (if x5_1.length < 3518437208883 then (spec_StoreEra.l0 kj5 a1 (x5_1 ++ [(⟨(rd_T35 l0_0 x6_1).f0, (rd_T35 l0_0 x6_1).f1, (rd_T35 l0_0 x6_1).f2, (rd_T35 l0_0 x6_1).f3⟩ : S35)]) (wrap64 (x6_1 + 1)) l0_0 l0_1 a0_2) else (none)) else (spec_StoreEra.l0 kj5 a1 x5_1 (wrap64 (x6_1 + 1)) l0_0 l0_1 a0_2))) else (none)) else (none)) = some r := by rw [if_pos rfl] at H; exact H
      clear H; have H := H1; clear H1
      by_cases c13 : 0 ≤ x6_1
      ·rw [if_pos c13] at H
       have c13b0 : decide (0 ≤ x6_1) = true := decide_eq_true c13; clear c13
       by_cases c14 : x6_1 < (l0_0.length : Int)
       ·rw [if_pos c14] at H
        have c14b0 : decide (x6_1 < (l0_0.length : Int)) = true := decide_eq_true c14; clear c14; replace H := Option.bind_eq_some_iff.mp H; obtain ⟨t571, A150, H⟩ := H
        try dsimp only at H
        have A15 := Aside0.mk A150; clear A150
        by_cases c16 : t571 = a1
        ·rw [if_pos c16] at H
         have c16b0 : (t571 == a1) = true := beq_iff_eq.mpr c16; have c16b1 : (t571 != a1) = false := bne_eq_false_iff_eq.mpr c16; clear c16
         by_cases c17 : x5_1.length < 3518437208883
         ·rw [if_pos c17] at H
          have LMc17 := Aside0.mk c17; clear c17; obtain ⟨y573, hy573⟩ : ∃ y_ : List (S35), y_ = (x5_1 ++ [(⟨(rd_T35 l0_0 x6_1).f0, (rd_T35 l0_0 x6_1).f1, (rd_T35 l0_0 x6_1).f2, (rd_T35 l0_0 x6_1).f3⟩ : S35)]) := ⟨_, rfl⟩; replace H : (spec_StoreEra.l0 kj5 a1 y573 (wrap64 (x6_1 + 1)) l0_0 l0_1 a0_2) = some r := by first | (rw [hy573]; with_reducible exact H) | (have H2_ := (Option.bind_some _ _).symm.trans H; rw [hy573]; with_reducible exact H2_) | (have H2_ := (Option.bind_some _ _).symm.trans H; with_reducible exact H2_) | with_reducible exact H | (rw [hy573]; exact H) | exact H
          have Ny573 := Aside0.mk hy573; clear hy573; have H' := Aside0.mk H; clear H; obtain ⟨hcz18_0, hcz18_1, hcz18_2, hfz18_0, hfz18_1, hfz18_2⟩ := C3 BK565.out; have p570 : 0 ≤ (x6_1 : Int) := of_decide_eq_true (by first | (with_reducible assumption) | assumption); have q570 : x6_1 < (l0_0.length : Int) := of_decide_eq_true (by first | (with_reducible assumption) | assumption); obtain ⟨ad570, e570, hx570_0, hx570_1, hx570_2, hx570_3⟩ := at_T35 HR0_0.out x6_1 p570 q570
          cases e570
          replace hx570_0 := CB HB.out hx570_0; replace hx570_1 := CB HB.out hx570_1; replace hx570_2 := CB HB.out hx570_2; replace hx570_3 := CB HB.out hx570_3; replace p570 := eq_true p570; replace q570 := eq_true q570
          go_wp2_with (first | ((with_reducible refine GC 58 ?_); refine goesL_ (some 25) rfl rfl Try.func58 (by kernel_rfl) rfl #[.int .i64 ((rd_T35 l0_0 x6_1).f0)] rfl KL ?_; (with_reducible refine MN (spec_EpochOf.calls ((rd_T35 l0_0 x6_1).f0) t571 _ A15.out) ?_); intro nd; refine ⟨_, rfl, ?_⟩; have p572 : 0 ≤ (x6_1 : Int) := of_decide_eq_true (by first | (with_reducible assumption) | assumption); have q572 : x6_1 < (l0_0.length : Int) := of_decide_eq_true (by first | (with_reducible assumption) | assumption); obtain ⟨ad572, e572, hx572_0, hx572_1, hx572_2, hx572_3⟩ := at_T35 HR0_0.out x6_1 p572 q572; obtain rfl : ad570 = ad572 := (by injection e572); replace hx572_0 := CB HB.out hx572_0; replace hx572_1 := CB HB.out hx572_1; replace hx572_2 := CB HB.out hx572_2; replace hx572_3 := CB HB.out hx572_3; replace p572 := eq_true p572; replace q572 := eq_true q572) | ((with_reducible refine gate_builtin (b := .append) (xs := #[.tmp 28, .tmp 34]) rfl ?_); at_builtin; refine Kd.R_append k35 (w0 := w) w.heap.size rfl (.tmp 28) (.tmp 34) 29 35 (.agg #[(.int .i64 0), (.int .i64 0), (.bool false), (.string ⟨#[]⟩)]) 40 rfl Try.underlying29 info35 rfl (by decide) (by omega) u5 x5_1 (⟨(rd_T35 l0_0 x6_1).f0, (rd_T35 l0_0 x6_1).f1, (rd_T35 l0_0 x6_1).f2, (rd_T35 l0_0 x6_1).f3⟩ : S35) [.int .i64 ((rd_T35 l0_0 x6_1).f0), .int .i64 ((rd_T35 l0_0 x6_1).f1), .bool ((rd_T35 l0_0 x6_1).f2), .string ((rd_T35 l0_0 x6_1).f3)] (fun _ => True) (fun _ => False) rfl rfl ?aP (fun _ hk => hk.elim) ?aF ?aO ?aB ?aS ?aL ?_; (case aP => exact k35_mkM _ _ _ (⟨(rd_T35 l0_0 x6_1).f0, (rd_T35 l0_0 x6_1).f1, (rd_T35 l0_0 x6_1).f2, (rd_T35 l0_0 x6_1).f3⟩ : S35)); (case aB => exact KB); (case aF => exact (fun _ _ => trivial)); (case aO => exact (KR HO_5.out)); (case aS => exact (below_size KB)); (case aL => have := LMc17.out; omega); intro v574 w19 ho hb hg hat; rw [← Ny573.out] at ho; have h_ := P3 (BW BK565.out hg (Kd.R_ne HO_5.out BK565.out (by decide))) hb ho; clear BK565 HB HO_5; obtain ⟨BK565, HB, HO575⟩ := h_; clear ho hb hg hat))
          go_roundg kj5
          case measure => have := HK1.out; have := HJ5.out; omega
          case rel => exact ⟨(y573), (wrap64 (x6_1 + 1)), (by first | rfl | (simp; done) | (simp [*]; done)), H', ⟨by have := HK1.out; have := HJ5.out; omega⟩, ⟨by (with_reducible repeat (first | apply Kd.R_alloc | apply Kd.R_drewN | apply Kd.R_drew)); exact HO575.out⟩, ⟨KK⟩, ⟨KB⟩⟩
         ·rw [if_neg c17] at H
          exact absurd H (by simp)
        ·rw [if_neg c16] at H
         have c16b0 : (t571 == a1) = false := beq_eq_false_iff_ne.mpr c16; have c16b1 : (t571 != a1) = true := bne_iff_ne.mpr c16; have H' := Aside0.mk H; clear H; obtain ⟨hcz20_0, hcz20_1, hcz20_2, hfz20_0, hfz20_1, hfz20_2⟩ := C3 BK565.out; have p570 : 0 ≤ (x6_1 : Int) := of_decide_eq_true (by first | (with_reducible assumption) | assumption); have q570 : x6_1 < (l0_0.length : Int) := of_decide_eq_true (by first | (with_reducible assumption) | assumption); obtain ⟨ad570, e570, hx570_0, hx570_1, hx570_2, hx570_3⟩ := at_T35 HR0_0.out x6_1 p570 q570
         cases e570
         replace hx570_0 := CB HB.out hx570_0; replace hx570_1 := CB HB.out hx570_1; replace hx570_2 := CB HB.out hx570_2; replace hx570_3 := CB HB.out hx570_3; replace p570 := eq_true p570; replace q570 := eq_true q570
         go_wp2_with (first | ((with_reducible refine GC 58 ?_); refine goesL_ (some 25) rfl rfl Try.func58 (by kernel_rfl) rfl #[.int .i64 ((rd_T35 l0_0 x6_1).f0)] rfl KL ?_; (with_reducible refine MN (spec_EpochOf.calls ((rd_T35 l0_0 x6_1).f0) t571 _ A15.out) ?_); intro nd; refine ⟨_, rfl, ?_⟩))
         go_roundg kj5
         case measure => have := HK1.out; have := HJ5.out; omega
         case rel => exact ⟨(x5_1), (wrap64 (x6_1 + 1)), (by first | rfl | (simp; done) | (simp [*]; done)), H', ⟨by have := HK1.out; have := HJ5.out; omega⟩, ⟨by (with_reducible repeat (first | apply Kd.R_alloc | apply Kd.R_drewN | apply Kd.R_drew)); exact HO_5.out⟩, ⟨KK⟩, ⟨KB⟩⟩
       ·rw [if_neg c14] at H
        exact absurd H (by simp)
      ·rw [if_neg c13] at H
       exact absurd H (by simp)
     ·replace c12 := Bool.eq_false_iff.mpr c12
      subst c12; have H1 : (some x5_1) = some r := by rw [if_neg (show ¬ (false = true) by decide)] at H; exact H
      clear H; have H := H1; clear H1; obtain rfl := Option.some.inj H
      go_wp2
      go_ret
      exact ⟨_, KE, by (with_reducible repeat (first | apply Kd.R_alloc | apply Kd.R_drewN | apply Kd.R_drew)); exact HO_5.out, KB⟩

end Go.Proofs.Ytnoghojlpicecaa.PFnEras
